import PyProof.Rows.All
import HandS.ForMost
import HandS.Wide
import HandS.WideBits
import HandS.IsInst
import HandS.Flow
import HandS.Style
import HandS.Deep
import HandS.Gcd
import HandS.Zip
import HandS.DictComp
import HandS.Lambda
import KE.SortData
import KE.SortKeyHeap
import HandS.TupAny
import HandS.TupMul
import HandS.TupLen
import HandS.Star
import HandS.Conv
import HandS.SortInts
import HandS.SetFor
import HandS.Codes
import HandS.Small
import PySem.Challenge.RW_whatfirst_k63_whole_best_starts
set_option Elab.async false
set_option linter.all false
set_option maxRecDepth 100000
set_option maxHeartbeats 16000000
/-! PV1: plain values, the core language, its evaluator -/
namespace PV
/-- a value as a tree -/
inductive T where
  | non | bl (b : Bool) | int (i : Int) | str (s : String)
  | tup (xs : List T) | lst (xs : List T) | frl (xs : List T)
  | dct (tk : Bool) (kvs : List (T × T))
  | ins (c : String) (fs : List (String × T))
  deriving Inhabited
mutual
def T.eq : T → T → Bool
  | .non, .non => true
  | .bl a, .bl b => a == b
  | .bl a, .int j => (if a then 1 else 0) == j
  | .int i, .bl b => i == (if b then 1 else 0)
  | .int i, .int j => i == j
  | .str a, .str b => a == b
  | .tup xs, .tup ys => T.eqs xs ys
  | .lst xs, .lst ys => T.eqs xs ys
  | _, _ => false
def T.eqs : List T → List T → Bool
  | [], [] => true
  | x :: xs, y :: ys => T.eq x y && T.eqs xs ys
  | _, _ => false
end
/- rows of ints, as Python orders them -/
mutual
def T.lt : T → T → Bool
  | .int i, .int j => decide (i < j)
  | .tup xs, .tup ys => T.lts xs ys
  | _, _ => false
def T.lts : List T → List T → Bool
  | [], [] => false
  | [], _ :: _ => true
  | _ :: _, [] => false
  | x :: xs, y :: ys => if T.eq x y then T.lts xs ys else T.lt x y
end
/- compared place by place -/
mutual
def T.like : T → T → Bool
  | .int _, .int _ => true
  | .tup xs, .tup ys => T.likes xs ys
  | _, _ => false
def T.likes : List T → List T → Bool
  | x :: xs, y :: ys => T.like x y && T.likes xs ys
  | [], _ => true
  | _ :: _, [] => true
end
def T.isTup : T → Bool
  | .tup _ => true
  | _ => false
/- data alone, at most n deep -/
mutual
def T.plain : Nat → T → Bool
  | _, .non => true
  | _, .bl _ => true
  | _, .int _ => true
  | _, .str s => PySem.PyData.strOk (PySem.Str.ofString s)
  | n + 1, .tup xs => T.plains n xs
  | n + 1, .lst xs => T.plains n xs
  | _, _ => false
def T.plains : Nat → List T → Bool
  | _, [] => true
  | n, x :: xs => T.plain n x && T.plains n xs
end
/-- a slot: nothing; a value that never changes; an own list or dict; a caller's one; an own one that is being walked -/
inductive Slot where
  | no | sh (t : T) | ow (t : T) | bo (t : T) | lk (t : T)
  deriving Inhabited
abbrev G := List Slot
abbrev M (α : Type) := G → Option (α × G)
@[inline] def M.pure {α : Type} (a : α) : M α := fun g => some (a, g)
@[inline] def M.bind {α β : Type} (m : M α) (f : α → M β) : M β := fun g => match m g with | none => none | some (a, g') => f a g'
@[inline] def M.fail {α : Type} : M α := fun _ => none
instance : Monad M where
  pure := M.pure
  bind := M.bind
/-- an answer that may lack -/
def lift {α : Type} : Option α → M α
  | some a => M.pure a
  | none => M.fail
def ask (b : Bool) : M Unit := if b then M.pure () else M.fail
def Slot.get : Slot → Option T
  | .no => none
  | .sh t => some t
  | .ow t => some t
  | .bo t => some t
  | .lk t => some t
/-- what the slot holds, for a look alone -/
def peek (i : Nat) : M T := fun g => match g[i]? with
  | some s => match s.get with | some t => some (t, g) | none => none
  | none => none
/-- what the slot holds, to be kept elsewhere: from now on it never changes -/
def rd (i : Nat) : M T := fun g => match g[i]? with
  | some (.sh t) => some (t, g)
  | some (.ow t) => some (t, g.set i (.sh t))
  | _ => none
/-- a slot is given a value -/
def put (i : Nat) (s : Slot) : M Unit := fun g => match g[i]? with
  | some .no => some ((), g.set i s)
  | some (.sh _) => some ((), g.set i s)
  | some (.ow _) => some ((), g.set i s)
  | _ => none
def slotOf (r : Bool × T) : Slot := if r.1 then .ow r.2 else .sh r.2

inductive Op2 where | add | sub | mul | fdiv | mod | pow | shl
inductive Cm where | eq | ne | lt | le | gt | ge
inductive Ty where | int | bool | str | tuple | list | dict | cls (c : String)
inductive Blt where | len | sum | all | any | min | max | abs | int | tuple | list | sorted | gcd | dict
inductive Mt where | append | extend | pop | popAt | insert | remove
inductive Pm where | index | count | get | get2
/-- a target: a slot, or a row of targets -/
inductive Tg where
  | at (i : Nat) | row (ts : List Tg)

mutual
inductive CE where
  | non | bl (b : Bool) | int (i : Int) | str (s : String)
  | var (i : Nat) | glob (x : String)
  | tup (es : List CE) | lst (es : List CE) | star (e : CE)
  | dnew (tk : Bool) | dct (kvs : List CE)
  | bin (o : Op2) (a b : CE) | neg (a : CE) | not (a : CE)
  | and (es : List CE) | or (es : List CE) | tand (es : List CE) | tor (es : List CE) | ite (c a b : CE)
  | cmp (o : Cm) (a b : CE) | chain (o o' : Cm) (a b c : CE)
  | isn (a : CE) (neg : Bool) | isb (a : CE) (b neg : Bool) | mem (a b : CE) (neg : Bool)
  | ix (a i : CE) | slice (a : CE) (lo hi : List CE) | rev (a : CE)
  | attr (a : CE) (f : String)
  | call (f : String) (as : List CE) | bor (i : Nat) | make (c : String) (as : List CE)
  | blt (f : Blt) (as : List CE) | isa (a : CE) (ts : List Ty)
  | mut (m : Mt) (i : Nat) (as : List CE) | mth (m : Pm) (o : CE) (as : List CE)
  | comp (own : List Nat) (tg : Tg) (it : CI) (ifs : List CE) (elt : CE)
  | conv (f : Blt) (it : CI)
/-- what is walked -/
inductive CI where
  | rng (as : List CE) | enum (a : CE) | zip (as : List CE) | seq (a : CE)
end

inductive CS where
  | set (i : Nat) (e : CE)
  | par (is : List Nat) (es : List CE)
  | unp (tg : Tg) (e : CE)
  | setIx (o : Nat) (i e : CE)
  | setFld (f : String) (e : CE)
  | expr (e : CE)
  | ret (es : List CE)
  | ite (c : CE) (a b : List CS)
  | for (tg : Tg) (it : CI) (body : List CS)
  | while (c : CE) (body : List CS)
  | brk | cont | pass
  | dead

/-! ### operations on values -/
/-- the longest list that is let -/
def lim : Nat := 1000000
def T.truth : T → Option Bool
  | .non => some false
  | .bl b => some b
  | .int i => some (i != 0)
  | .tup xs => if xs.length ≤ lim then some (!xs.isEmpty) else none
  | .lst xs => if xs.length ≤ lim then some (!xs.isEmpty) else none
  | .dct false kvs => some (!kvs.isEmpty)
  | _ => none
def T.isnV (neg : Bool) : T → Bool
  | .non => !neg
  | _ => neg
def T.isbV (b neg : Bool) : T → Bool
  | .bl c => if c == b then !neg else neg
  | _ => neg
/-- bounds that the kernel does not unfold -/
def ltZ (i : Int) (n : Nat) : Bool := Nat.blt i.natAbs n
def leZ (i : Int) (n : Nat) : Bool := Nat.ble i.toNat n
theorem ltZ_iff {i : Int} {n : Nat} : ltZ i n = true ↔ -(n : Int) < i ∧ i < n := by
  unfold ltZ Nat.blt
  rw [Nat.ble_eq]
  omega
theorem leZ_iff {i : Int} {n : Nat} : leZ i n = true ↔ i ≤ n := by
  unfold leZ
  rw [Nat.ble_eq]
  omega
theorem lt60 {i : Int} : ltZ i (2 ^ 60) = true ↔ -(2 ^ 60) < i ∧ i < 2 ^ 60 := by rw [ltZ_iff]; omega
theorem lt62 {i : Int} : ltZ i (2 ^ 62) = true ↔ -(2 ^ 62) < i ∧ i < 2 ^ 62 := by rw [ltZ_iff]; omega
theorem lt64 {i : Int} : ltZ i (2 ^ 64) = true ↔ -(2 ^ 64) < i ∧ i < 2 ^ 64 := by rw [ltZ_iff]; omega
theorem le6 {i : Int} : leZ i 1000000 = true ↔ i ≤ 1000000 := by rw [leZ_iff]; omega
theorem le7 {i : Int} : leZ i 16000000 = true ↔ i ≤ 16000000 := by rw [leZ_iff]; omega
theorem blt64 {n : Nat} : Nat.blt n (2 ^ 64) = true ↔ n < 2 ^ 64 := by unfold Nat.blt; rw [Nat.ble_eq]; omega
def small (i : Int) : Bool := ltZ i (2 ^ 64)
def mulOk (i j : Int) : Bool := small i || small j || decide (i.natAbs.log2 + j.natAbs.log2 < 1000000)
def divOk (j : Int) : Bool := decide (0 < j) && decide (j.natAbs.log2 < 9000)
def powOk (i j : Int) : Bool := decide (0 ≤ j) && leZ j 1000000 && Nat.blt i.natAbs (2 ^ 64)
def bin2 : Op2 → T → T → Option (Bool × T)
  | .add, .int i, .int j => some (false, .int (i + j))
  | .add, .lst xs, .lst ys => if xs.length + ys.length ≤ lim then some (true, .lst (xs ++ ys)) else none
  | .add, .tup xs, .tup ys => if xs.length + ys.length ≤ lim then some (false, .tup (xs ++ ys)) else none
  | .sub, .int i, .int j => some (false, .int (i - j))
  | .mul, .int i, .int j => if mulOk i j then some (false, .int (i * j)) else none
  | .mul, .lst xs, .int k => if ltZ k (2 ^ 62) && decide (xs.length * k.toNat ≤ lim) then some (true, .lst (List.replicate k.toNat xs).flatten) else none
  | .mul, .tup xs, .int k => if decide (2 ≤ k) && decide (k ≤ 1000) && decide (xs.length ≤ 1000) && !xs.isEmpty then some (false, .tup (List.replicate k.toNat xs).flatten) else none
  | .fdiv, .int i, .int j => if divOk j then some (false, .int (i / j)) else none
  | .mod, .int i, .int j => if decide (0 < j) then some (false, .int (i % j)) else none
  | .pow, .int i, .int j => if powOk i j then some (false, .int (i ^ j.toNat)) else none
  | .shl, .int i, .int j => if powOk i j then some (false, .int (i * 2 ^ j.toNat)) else none
  | _, _, _ => none
/-- how deep data are compared -/
def deep : Nat := 60
def cmp2 : Cm → T → T → Option Bool
  | .eq, a, b => if a.plain deep && b.plain deep then some (a.eq b) else none
  | .ne, a, b => if a.plain deep && b.plain deep then some (!a.eq b) else none
  | .lt, .int i, .int j => some (decide (i < j))
  | .le, .int i, .int j => some (decide (i ≤ j))
  | .gt, .int i, .int j => some (decide (j < i))
  | .ge, .int i, .int j => some (decide (j ≤ i))
  | _, _, _ => none
/-- a key of a dict: an int or a text; a tuple of such -/
def T.isKey : T → Bool
  | .int _ => true
  | .str _ => true
  | _ => false
def T.keyOk (tk : Bool) : T → Bool
  | .tup xs => tk && xs.all T.isKey
  | .int _ => !tk
  | .str _ => !tk
  | _ => false
def dget (kvs : List (T × T)) (k : T) : Option T := (kvs.find? fun kv => kv.1.eq k).map (·.2)
def dput (kvs : List (T × T)) (k v : T) : List (T × T) :=
  if (kvs.any fun kv => kv.1.eq k) then kvs.map (fun kv => if kv.1.eq k then (kv.1, v) else kv) else kvs ++ [(k, v)]
def mem2 : T → T → Option Bool
  | x, .tup xs => if x.plain deep && T.plains deep xs then some (xs.any fun y => y.eq x) else none
  | x, .lst xs => if x.plain deep && T.plains deep xs then some (xs.any fun y => y.eq x) else none
  | x, .dct tk kvs => if x.keyOk tk then some (dget kvs x).isSome else none
  | _, _ => none
/-- the place that an index means -/
def place (n : Nat) (i : Int) : Option Nat := if 0 ≤ i then (if i < n then some i.toNat else none) else if -(n : Int) ≤ i then some (i + n).toNat else none
def getAt (xs : List T) (i : Int) : Option T := match place xs.length i with | some j => xs[j]? | none => none
def ix2 : T → T → Option T
  | .tup xs, .int i => getAt xs i
  | .lst xs, .int i => getAt xs i
  | .dct tk kvs, k => if k.keyOk tk then dget kvs k else none
  | _, _ => none
def cut (n d : Nat) : Option Int → Nat
  | none => d
  | some i => if i < 0 then (i + n).toNat else min i.toNat n
def slice2 (t : T) (lo hi : Option Int) : Option (Bool × T) := match t with
  | .lst xs => some (true, .lst ((xs.drop (cut xs.length 0 lo)).take (cut xs.length xs.length hi - cut xs.length 0 lo)))
  | .tup xs => some (false, .tup ((xs.drop (cut xs.length 0 lo)).take (cut xs.length xs.length hi - cut xs.length 0 lo)))
  | _ => none
def rev2 : T → Option (Bool × T)
  | .lst xs => if xs.length ≤ lim then some (true, .lst xs.reverse) else none
  | .tup xs => if xs.length ≤ lim then some (false, .tup xs.reverse) else none
  | _ => none
def T.int? : T → Option Int | .int i => some i | _ => none
def T.bl? : T → Option Bool | .bl b => some b | _ => none
def getInts : List T → Option (List Int)
  | [] => some []
  | .int i :: r => match getInts r with | some is => some (i :: is) | none => none
  | _ :: _ => none
def getBools : List T → Option (List Bool)
  | [] => some []
  | .bl i :: r => match getBools r with | some is => some (i :: is) | none => none
  | _ :: _ => none
def maxOf : List Int → Option Int
  | [] => none
  | [i] => some i
  | i :: r => match maxOf r with | some m => some (if m > i then m else i) | none => none
def minOf : List Int → Option Int
  | [] => none
  | [i] => some i
  | i :: r => match minOf r with | some m => some (if m < i then m else i) | none => none
def T.items : T → Option (List T)
  | .tup xs => some xs
  | .lst xs => some xs
  | .frl xs => some xs
  | _ => none
end PV

/-! PV2: the evaluator -/
namespace PV
def sortInts (ns : List Int) : List Int := ns.mergeSort (fun a b => decide (a ≤ b))
/-- rows of data sorted -/
def leT (a b : T) : Bool := !T.lt b a
def sortD (xs : List T) : Option (List T) := if xs.all T.isTup && (xs.all fun x => xs.all fun y => T.like x y) && T.plains 30 xs && decide (xs.length ≤ lim) then some (xs.mergeSort leT) else none
def blt2 : Blt → List T → Option (Bool × T)
  | .len, [.tup xs] => some (false, .int xs.length)
  | .len, [.lst xs] => some (false, .int xs.length)
  | .len, [.frl xs] => some (false, .int xs.length)
  | .len, [.dct _ kvs] => some (false, .int kvs.length)
  | .sum, [.lst xs] => match getInts xs with | some ns => some (false, .int ns.sum) | none => none
  | .all, [.lst xs] => match getBools xs with | some bs => some (false, .bl (bs.all id)) | none => none
  | .any, [.lst xs] => match getBools xs with | some bs => some (false, .bl (bs.any id)) | none => none
  | .max, [.lst xs] => match getInts xs with | some ns => (maxOf ns).map fun m => (false, .int m) | none => none
  | .min, [.lst xs] => match getInts xs with | some ns => (minOf ns).map fun m => (false, .int m) | none => none
  | .max, [.int i, .int j] => some (false, .int (if j > i then j else i))
  | .min, [.int i, .int j] => some (false, .int (if j < i then j else i))
  | .abs, [.int i] => some (false, .int (if i < 0 then -i else i))
  | .int, [.int i] => some (false, .int i)
  | .tuple, [.lst xs] => if xs.length ≤ lim then some (false, .tup xs) else none
  | .tuple, [.tup xs] => some (false, .tup xs)
  | .list, [.lst xs] => if xs.length ≤ lim then some (true, .lst xs) else none
  | .list, [.frl xs] => if xs.length ≤ lim then some (true, .lst xs) else none
  | .list, [.tup xs] => if xs.length ≤ lim then some (true, .lst xs) else none
  | .sorted, [.lst xs] => match getInts xs with | some ns => if ns.length ≤ lim then some (true, .lst ((sortInts ns).map T.int)) else none | none => (sortD xs).map fun ys => (true, .lst ys)
  | .sorted, [.tup xs] => match getInts xs with | some ns => if ns.length ≤ lim then some (true, .lst ((sortInts ns).map T.int)) else none | none => none
  | .gcd, [.int a, .int b] => some (false, .int ((Nat.gcd a.natAbs b.natAbs : Nat) : Int))
  | _, _ => none
/-- a tuple or list from a range's ints -/
def conv2 : Blt → List T → Option (Bool × T)
  | .list, xs => if xs.length ≤ lim then some (true, .lst xs) else none
  | .tuple, xs => if xs.length ≤ lim then some (false, .tup xs) else none
  | _, _ => none
/-- what a change gives, and the changed value -/
def mut2 : Mt → T → List T → Option (T × T)
  | .append, .lst xs, [y] => if xs.length < lim then some (.non, .lst (xs ++ [y])) else none
  | .extend, .lst xs, [.lst ys] => if xs.length + ys.length ≤ lim then some (.non, .lst (xs ++ ys)) else none
  | .pop, .lst xs, [] => match xs.getLast? with | some y => some (y, .lst xs.dropLast) | none => none
  | .popAt, .lst xs, [.int i] => if ltZ i (2 ^ 62) then (place xs.length i).bind fun j => (xs[j]?).map fun y => (y, .lst (xs.eraseIdx j)) else none
  | .insert, .lst xs, [.int i, y] => if decide (0 ≤ i) && decide (i ≤ xs.length) && decide (xs.length < lim) then some (.non, .lst (xs.take i.toNat ++ y :: xs.drop i.toNat)) else none
  | _, _, _ => none
def T.isLst : T → Bool
  | .lst _ => true
  | _ => false
/-- what a method is asked of -/
def Pm.on : Pm → T → Bool
  | .get, .dct _ _ => true
  | .get2, .dct _ _ => true
  | .index, .lst _ => true
  | .index, .tup _ => true
  | .count, .lst _ => true
  | .count, .tup _ => true
  | _, _ => false
def mth2 : Pm → T → List T → Option T
  | .get, .dct tk kvs, [k] => if k.keyOk tk then some ((dget kvs k).getD .non) else none
  | .get2, .dct tk kvs, [k, d] => if k.keyOk tk then some ((dget kvs k).getD d) else none
  | _, _, _ => none
/-- x[i] = v -/
def set2 : T → T → T → Option T
  | .lst xs, .int i, v => match place xs.length i with | some j => some (.lst (xs.set j v)) | none => none
  | .dct tk kvs, k, v => if k.keyOk tk && decide (kvs.length < lim) then some (.dct tk (dput kvs k v)) else none
  | _, _, _ => none
def fput (f : String) (v : T) : List (String × T) → List (String × T)
  | [] => [(f, v)]
  | (k, w) :: r => if k == f then (k, v) :: r else (k, w) :: fput f v r
def Ty.of : Ty → T → Bool
  | .int, .int _ => true
  | .int, .bl _ => true
  | .bool, .bl _ => true
  | .str, .str _ => true
  | .tuple, .tup _ => true
  | .list, .lst _ => true
  | .list, .frl _ => true
  | .dict, .dct _ _ => true
  | .cls c, .ins d _ => c == d
  | _, _ => false
def isa2 (t : T) (ys : List Ty) : Bool := ys.any fun y => y.of t
def isT (x : T) : Bool := match x with
  | .tup _ => true
  | _ => false
def mid (i : Int) : Bool := ltZ i (2 ^ 60)
def rngOf : List T → Option (List T)
  | [.int n] => if mid n && leZ n 16000000 then some ((List.range n.toNat).map fun k => .int (k : Nat)) else none
  | [.int a, .int b] => if mid a && mid b && leZ (b - a) 16000000 then some ((List.range (b - a).toNat).map fun k => .int (a + (k : Nat))) else none
  | [.int a, .int b, .int c] => if c == -1 && mid a && mid b && leZ (a - b) 16000000 then some ((List.range (a - b).toNat).map fun k => .int (a + (k : Nat) * (-1))) else none
  | _ => none
def enumOf (xs : List T) : List T := (List.range xs.length).zip xs |>.map fun p => .tup [.int (p.1 : Nat), p.2]
def zipOf (xs ys : List T) : List T := (xs.zip ys).map fun p => .tup [p.1, p.2]
/-- a call's answer: what it hands back, whether that is new and its own; its lent lists and dicts behind it -/
structure Ans where
  own : Bool
  t : T
  outs : List T
abbrev Cl := String → List T → Option Ans
/-! ### helpers that recur on values -/
mutual
def tgt : Tg → T → M Unit
  | .at i, t => put i (.sh t)
  | .row ts, .tup xs => tgts ts xs
  | .row _, _ => M.fail
def tgts : List Tg → List T → M Unit
  | [], [] => M.pure ()
  | a :: ts, x :: xs => do tgt a x; tgts ts xs
  | _, _ => M.fail
end
def forC (f : T → M (List T)) : List T → M (List T)
  | [] => M.pure []
  | x :: xs => do
    let r ← f x
    let rs ← forC f xs
    M.pure (r ++ rs)
/-- the own slots of a comprehension: nothing in them that may be changed -/
def clearOwn : List Nat → M Unit
  | [] => M.pure ()
  | i :: r => do clearOwn r; put i .no
def wipeOwn (g : G) : List Nat → G
  | [] => g
  | i :: r => (wipeOwn g r).set i .no
def ownFree (g : G) (own : List Nat) : Bool := own.all fun i => match g[i]? with | some .no => true | some (.sh _) => true | _ => false
def restore (g0 g : G) : List Nat → G
  | [] => g
  | i :: r => (restore g0 g r).set i ((g0[i]?).getD .no)
/-- the turns with the own slots set apart -/
def within (own : List Nat) {α : Type} (m : M α) : M α := fun g =>
  if ownFree g own then match m (wipeOwn g own) with
    | some (a, g') => some (a, restore g g' own)
    | none => none
  else none
/-- a list at a slot is walked: not changed meanwhile -/
def lock (j : Nat) : M Unit := fun g => match g[j]? with
  | some (.ow t) => some ((), g.set j (.lk t))
  | _ => some ((), g)
def unlock (j : Nat) (g0 : G) : M Unit := fun g => match g0[j]?, g[j]? with
  | some (.ow _), some (.lk t) => some ((), g.set j (.ow t))
  | some (.ow _), _ => none
  | _, _ => some ((), g)
def getG : M G := fun g => some (g, g)
def during (l : Option Nat) {α : Type} (m : M α) : M α := match l with
  | none => m
  | some j => fun g => match g[j]? with
    | some (.ow t) => match m (g.set j (.lk t)) with
      | some (a, g') => some (a, g'.set j (.ow t))
      | none => none
    | some (.bo _) => none
    | _ => m g
/-- the value kept: it never changes from here on -/
def kept (e : CE) (m : M (Bool × T)) : M T := match e with
  | .var i => rd i
  | _ => do let r ← m; M.pure r.2
/-- an owner's look: first the parts, then what the name holds by then -/
def pre (e : CE) (m : M (Bool × T)) : M T := match e with
  | .var i => peek i
  | _ => do let r ← m; M.pure r.2
def post (e : CE) (t : T) : M T := match e with
  | .var i => peek i
  | _ => M.pure t
def slotIt : CE → Option Nat
  | .var j => some j
  | _ => none
def mine (i : Nat) : M T := fun g => match g[i]? with
  | some (.ow t) => some (t, g)
  | some (.bo t) => some (t, g)
  | _ => none
def change (i : Nat) (t : T) : M Unit := fun g => match g[i]? with
  | some (.ow _) => some ((), g.set i (.ow t))
  | some (.bo _) => some ((), g.set i (.bo t))
  | _ => none
/-- the arguments of an own def: values, and the slots that are lent -/
def CE.lent : CE → Option Nat
  | .bor i => some i
  | _ => none
def lentOf : List CE → List Nat
  | [] => []
  | e :: r => match e.lent with | some i => i :: lentOf r | none => lentOf r
def fillArgs : List CE → List T → M (List T)
  | e :: es, t :: ts => match e.lent with
    | some i => do
      let u ← mine i
      let r ← fillArgs es ts
      M.pure (u :: r)
    | none => do
      let r ← fillArgs es ts
      M.pure (t :: r)
  | [], [] => M.pure []
  | _, _ => M.fail
def backArgs : List Nat → List T → M Unit
  | [], [] => M.pure ()
  | i :: is, t :: ts => do change i t; backArgs is ts
  | _, _ => M.fail
section
variable (gl : String → Option T) (cl : Cl)
mutual
def evX : CE → M (Bool × T)
  | .non => M.pure (false, .non)
  | .bl b => M.pure (false, .bl b)
  | .int i => M.pure (false, .int i)
  | .str s => M.pure (false, .str s)
  | .var i => do let t ← peek i; M.pure (false, t)
  | .glob x => do let t ← lift (gl x); M.pure (false, t)
  | .tup es => do
    let ts ← evL es
    ask (decide (ts.length ≤ lim))
    M.pure (false, .tup ts)
  | .lst es => do
    let ts ← evL es
    ask (decide (ts.length ≤ lim))
    M.pure (true, .lst ts)
  | .star _ => M.fail
  | .dnew tk => M.pure (true, .dct tk [])
  | .dct es => do
    let kvs ← evKV es []
    M.pure (true, .dct false kvs)
  | .bin o a b => do
    let x ← kept a (evX a)
    let y ← kept b (evX b)
    lift (bin2 o x y)
  | .neg a => do
    let x ← evX a
    let i ← lift x.2.int?
    M.pure (false, .int (-i))
  | .not a => do
    let x ← evX a
    let b ← lift x.2.truth
    M.pure (false, .bl (!b))
  | .and es => do let b ← evAnd es; M.pure (false, .bl b)
  | .or es => do let b ← evOr es; M.pure (false, .bl b)
  | .tand es => do let b ← evTAnd es; M.pure (false, .bl b)
  | .tor es => do let b ← evTOr es; M.pure (false, .bl b)
  | .ite c a b => do
    let r ← evX c
    let k ← lift r.2.truth
    if k then do
      let x ← kept a (evX a)
      M.pure (false, x)
    else do
      let x ← kept b (evX b)
      M.pure (false, x)
  | .cmp o a b => do
    let x ← kept a (evX a)
    let y ← kept b (evX b)
    let k ← lift (cmp2 o x y)
    M.pure (false, .bl k)
  | .chain o o' a b c => do
    let x ← kept a (evX a)
    let y ← kept b (evX b)
    let k ← lift (cmp2 o x y)
    if k then do
      let z ← kept c (evX c)
      let k' ← lift (cmp2 o' y z)
      M.pure (false, .bl k')
    else M.pure (false, .bl false)
  | .isn a neg => do
    let x ← evX a
    M.pure (false, .bl (x.2.isnV neg))
  | .isb a b neg => do
    let x ← evX a
    M.pure (false, .bl (x.2.isbV b neg))
  | .mem a b neg => do
    let x ← kept a (evX a)
    let y ← evX b
    let k ← lift (mem2 x y.2)
    M.pure (false, .bl (if neg then !k else k))
  | .ix a i => do
    let x0 ← pre a (evX a)
    let k ← kept i (evX i)
    let x ← post a x0
    let t ← lift (ix2 x k)
    M.pure (false, t)
  | .slice a lo hi => do
    let x0 ← pre a (evX a)
    let l ← evPart lo
    let h ← evPart hi
    let x ← post a x0
    lift (slice2 x l h)
  | .rev a => do
    let x ← evX a
    lift (rev2 x.2)
  | .attr a f => do
    let x ← evX a
    match x.2 with
    | .ins _ fs => do let t ← lift (fs.lookup f); M.pure (false, t)
    | _ => M.fail
  | .call f as => do
    ask (decide (lentOf as).Nodup)
    let ts0 ← evArgs as
    let ts ← fillArgs as ts0
    let r ← lift (cl f ts)
    backArgs (lentOf as) r.outs
    M.pure (r.own, r.t)
  | .bor _ => M.fail
  | .make c as => do
    let ts ← evKept as
    let r ← lift (cl (c ++ ".__init__") (.ins c [] :: ts))
    match r.t, r.outs with
    | .non, [t] => M.pure (false, t)
    | _, _ => M.fail
  | .blt f as => do
    let ts ← evBlt as
    lift (blt2 f ts)
  | .isa a ts => do
    let x ← evX a
    M.pure (false, .bl (isa2 x.2 ts))
  | .mut m i as => do
    let t0 ← mine i
    ask t0.isLst
    let ts ← evKept as
    let t ← mine i
    let r ← lift (mut2 m t ts)
    change i r.2
    M.pure (false, r.1)
  | .mth m o as => do
    let x0 ← pre o (evX o)
    ask (m.on x0)
    let ts ← evKept as
    let x ← post o x0
    let t ← lift (mth2 m x ts)
    M.pure (false, t)
  | .comp own tg it ifs elt => do
    let src ← evIt it
    let r ← during src.1 (within own (forC (fun x => fun g =>
      (do
        tgt tg x
        let k ← evIfs ifs
        if k then do
          let y ← kept elt (evX elt)
          clearOwn own
          M.pure [y]
        else do
          clearOwn own
          M.pure [] : M (List T)) g) src.2))
    ask (decide (r.length ≤ lim))
    M.pure (true, .lst r)
  | .conv f it => do
    let r ← evIt it
    lift (conv2 f r.2)
/-- items of a display -/
def evL : List CE → M (List T)
  | [] => M.pure []
  | .star e :: r => do
    let x ← evX e
    let xs ← lift x.2.items
    let ys ← evL r
    M.pure (xs ++ ys)
  | e :: r => do
    let x ← kept e (evX e)
    let xs ← evL r
    M.pure (x :: xs)
def evKept : List CE → M (List T)
  | [] => M.pure []
  | e :: r => do
    let x ← kept e (evX e)
    let xs ← evKept r
    M.pure (x :: xs)
/-- arguments of a built-in: one alone is looked at, several are kept -/
def evBlt : List CE → M (List T)
  | [] => M.fail
  | [e] => do
    let x ← evX e
    M.pure [x.2]
  | e :: r => do
    let x ← kept e (evX e)
    let xs ← evKept r
    M.pure (x :: xs)
def evArgs : List CE → M (List T)
  | [] => M.pure []
  | e :: r => match e.lent with
    | some i => do
      let _ ← mine i
      let xs ← evArgs r
      M.pure (.non :: xs)
    | none => do
      let x ← kept e (evX e)
      let xs ← evArgs r
      M.pure (x :: xs)
def evKV : List CE → List (T × T) → M (List (T × T))
  | [], acc => M.pure acc
  | k :: v :: r, acc => do
    let a ← kept k (evX k)
    ask (a.keyOk false)
    let b ← kept v (evX v)
    evKV r (dput acc a b)
  | _, _ => M.fail
/-- and, or: truth values alone -/
def evAnd : List CE → M Bool
  | [] => M.fail
  | [e] => do
    let x ← evX e
    lift x.2.bl?
  | e :: r => do
    let x ← evX e
    let b ← lift x.2.bl?
    if b then evAnd r else M.pure false
def evOr : List CE → M Bool
  | [] => M.fail
  | [e] => do
    let x ← evX e
    lift x.2.bl?
  | e :: r => do
    let x ← evX e
    let b ← lift x.2.bl?
    if b then M.pure true else evOr r
/-- as tests -/
def evTAnd : List CE → M Bool
  | [] => M.fail
  | [e] => do
    let x ← evX e
    lift x.2.truth
  | e :: r => do
    let x ← evX e
    let b ← lift x.2.truth
    if b then evTAnd r else M.pure false
def evTOr : List CE → M Bool
  | [] => M.fail
  | [e] => do
    let x ← evX e
    lift x.2.truth
  | e :: r => do
    let x ← evX e
    let b ← lift x.2.truth
    if b then M.pure true else evTOr r
def evPart : List CE → M (Option Int)
  | [] => M.pure none
  | [e] => do
    let x ← evX e
    let i ← lift x.2.int?
    M.pure (some i)
  | _ => M.fail
def evIfs : List CE → M Bool
  | [] => M.pure true
  | [e] => do
    let x ← evX e
    lift x.2.truth
  | _ => M.fail
/-- what a loop walks: the slot that is locked meanwhile, the items -/
def evIt : CI → M (Option Nat × List T)
  | .rng as => do
    let ts ← evKept as
    let xs ← lift (rngOf ts)
    M.pure (none, xs)
  | .enum a => do
    let x ← pre a (evX a)
    ask (!isT x)
    let xs ← lift x.items
    M.pure (slotIt a, enumOf xs)
  | .zip as => do
    let ts ← evKept as
    match ts with
    | [.lst xs, .lst ys] => M.pure (none, zipOf xs ys)
    | [.tup xs, .tup ys] => M.pure (none, zipOf xs ys)
    | _ => M.fail
  | .seq a => do
    let x ← pre a (evX a)
    let xs ← lift x.items
    M.pure (slotIt a, xs)
end
end
/-- as a test -/
def evT (gl : String → Option T) (cl : Cl) (e : CE) : M Bool := do
  let x ← evX gl cl e
  lift x.2.truth
end PV

/-! PV3: statements, defs -/
namespace PV
inductive Fl where
  | next | brk | cont | ret (own : Bool) (t : T)
def loopF (f : T → M Fl) : List T → M Fl
  | [] => M.pure .next
  | x :: xs => do
    let r ← f x
    match r with
    | .next => loopF f xs
    | .cont => loopF f xs
    | .brk => M.pure .next
    | .ret o t => M.pure (.ret o t)
def loopW (c : M Bool) (b : M Fl) : Nat → M Fl
  | 0 => M.fail
  | n + 1 => do
    let k ← c
    if k then do
      let r ← b
      match r with
      | .next => loopW c b n
      | .cont => loopW c b n
      | .brk => M.pure .next
      | .ret o t => M.pure (.ret o t)
    else M.pure .next
/-- how often a while may turn -/
def turns : Nat := 1000000000
/-- a value moved out of a name, or a new one -/
def moved (e : CE) (m : M (Bool × T)) : M (Bool × T) := match e with
  | .var j => fun g => match g[j]? with
    | some (.sh t) => some ((false, t), g)
    | some (.ow t) => some ((true, t), g.set j .no)
    | _ => none
  | _ => m
/-- several values: new ones stay own, names' are kept -/
def newOr (e : CE) (m : M (Bool × T)) : M (Bool × T) := match e with
  | .var j => do let t ← rd j; M.pure (false, t)
  | _ => m
def putAll : List Nat → List (Bool × T) → M Unit
  | [], [] => M.pure ()
  | i :: is, r :: rs => do put i (slotOf r); putAll is rs
  | _, _ => M.fail
section
variable (gl : String → Option T) (cl : Cl)
def evNews : List CE → M (List (Bool × T))
  | [] => M.pure []
  | e :: r => do
    let x ← newOr e (evX gl cl e)
    let xs ← evNews r
    M.pure (x :: xs)
mutual
def evS : CS → M Fl
  | .set i e => do
    let r ← moved e (evX gl cl e)
    put i (slotOf r)
    M.pure .next
  | .par is es => do
    ask (decide is.Nodup)
    let rs ← evNews gl cl es
    putAll is rs
    M.pure .next
  | .unp tg e => do
    let t ← kept e (evX gl cl e)
    tgt tg t
    M.pure .next
  | .setIx o i e => do
    let v ← kept e (evX gl cl e)
    let _ ← mine o
    let k ← kept i (evX gl cl i)
    let t ← mine o
    let t' ← lift (set2 t k v)
    change o t'
    M.pure .next
  | .setFld f e => do
    let v ← kept e (evX gl cl e)
    let t ← mine 0
    match t with
    | .ins c fs => do
      ask (decide (fs.length < 900))
      change 0 (.ins c (fput f v fs))
      M.pure .next
    | _ => M.fail
  | .expr e => do
    let _ ← evX gl cl e
    M.pure .next
  | .ret [] => M.pure (.ret false .non)
  | .ret [e] => do
    let r ← moved e (evX gl cl e)
    M.pure (.ret r.1 r.2)
  | .ret _ => M.fail
  | .ite c a b => do
    let k ← evT gl cl c
    if k then evSs a else evSs b
  | .for tg it body => do
    let src ← evIt gl cl it
    during src.1 (loopF (fun x => do tgt tg x; evSs body) src.2)
  | .while c body => loopW (evT gl cl c) (evSs body) turns
  | .brk => M.pure .brk
  | .cont => M.pure .cont
  | .pass => M.pure .next
  | .dead => M.fail
def evSs : List CS → M Fl
  | [] => M.pure .next
  | s :: r => do
    let f ← evS s
    match f with
    | .next => evSs r
    | .brk => M.pure .brk
    | .cont => M.pure .cont
    | .ret o t => M.pure (.ret o t)
end
end
/-- a def: which parameters are lent, how many slots, its body -/
structure Fd where
  bor : List Bool
  n : Nat
  body : List CS
def slots0 : List Bool → List T → G
  | b :: bs, t :: ts => (if b then .bo t else .sh t) :: slots0 bs ts
  | _, _ => []
def outs : List Bool → G → Option (List T)
  | [], _ => some []
  | true :: bs, .bo t :: g => (outs bs g).map fun r => t :: r
  | false :: bs, _ :: g => outs bs g
  | _, _ => none
def evB (gl : String → Option T) (cl : Cl) (d : Fd) (ts : List T) : Option Ans :=
  if ts.length = d.bor.length ∧ d.bor.length ≤ d.n then
    match evSs gl cl d.body (slots0 d.bor ts ++ List.replicate (d.n - d.bor.length) .no) with
    | some (.ret o t, g) => (outs d.bor g).map fun r => ⟨o, t, r⟩
    | some (.next, g) => (outs d.bor g).map fun r => ⟨false, .non, r⟩
    | _ => none
  else none
def evF (gl : String → Option T) (tb : String → Option Fd) : Nat → Cl
  | 0 => fun _ _ => none
  | k + 1 => fun f ts => match tb f with
    | some d => evB gl (evF gl tb k) d ts
    | none => none
end PV

/-! PV4: how values lie in the heap; states; steps -/
namespace PV
open PySem PySem.Spec PyProof.Rows L2
abbrev Sl := L2.St
structure Wd where
  K : PySem.W.Frag
  cA : String → Option Addr
inductive KeyT : Key → T → Prop
  | int (i : Int) : KeyT (.inl i) (.int i)
  | str (s : String) : KeyT (.inr (Str.ofString s)) (.str s)
mutual
inductive Rep (W : Wd) (F : Hp) : V → T → Prop
  | non : Rep W F .non .non
  | bl (b : Bool) : Rep W F (.bl b) (.bl b)
  | int (i : Int) : Rep W F (.int i) (.int i)
  | str (s : String) : Rep W F (.str (Str.ofString s)) (.str s)
  | tup {a : Addr} {vs : List V} {ts : List T} : F a = some (.tup vs) → Reps W F vs ts → Rep W F (.ref a) (.tup ts)
  | lst {a : Addr} {vs : List V} {ts : List T} : F a = some (.lst vs) → Reps W F vs ts → Rep W F (.ref a) (.lst ts)
  | frl {a : Addr} {vs : List V} {ts : List T} : SqL W.K F a vs → Reps W F vs ts → Rep W F (.ref a) (.frl ts)
  | dK {a : Addr} {kvs : List (Key × V)} {ts : List (T × T)} : F a = some (.dK kvs) → RepD W F kvs ts → Rep W F (.ref a) (.dct false ts)
  | dT {a : Addr} {kvs : List (List Key × V)} {ts : List (T × T)} : F a = some (.dT kvs) → RepE W F kvs ts → Rep W F (.ref a) (.dct true ts)
  | ins {a C dx : Addr} {c : String} {fs : List (Str × V)} {gs : List (String × T)} : W.cA c = some C → F a = some (.ins C dx fs) → RepF W F fs gs → Rep W F (.ref a) (.ins c gs)
inductive Reps (W : Wd) (F : Hp) : List V → List T → Prop
  | nil : Reps W F [] []
  | cons {v : V} {vs : List V} {t : T} {ts : List T} : Rep W F v t → Reps W F vs ts → Reps W F (v :: vs) (t :: ts)
inductive RepD (W : Wd) (F : Hp) : List (Key × V) → List (T × T) → Prop
  | nil : RepD W F [] []
  | cons {k : Key} {v : V} {kvs : List (Key × V)} {x t : T} {ts : List (T × T)} : KeyT k x → Rep W F v t → RepD W F kvs ts → RepD W F ((k, v) :: kvs) ((x, t) :: ts)
inductive RepE (W : Wd) (F : Hp) : List (List Key × V) → List (T × T) → Prop
  | nil : RepE W F [] []
  | cons {k : List Key} {v : V} {kvs : List (List Key × V)} {x : List T} {t : T} {ts : List (T × T)} : Paired KeyT k x → Rep W F v t → RepE W F kvs ts → RepE W F ((k, v) :: kvs) ((.tup x, t) :: ts)
inductive RepF (W : Wd) (F : Hp) : List (Str × V) → List (String × T) → Prop
  | nil : RepF W F [] []
  | cons {f : String} {v : V} {fs : List (Str × V)} {t : T} {gs : List (String × T)} : Rep W F v t → RepF W F fs gs → RepF W F ((Str.ofString f, v) :: fs) ((f, t) :: gs)
end
theorem Same.sqt {K : PySem.W.Frag} {H H' : Hp} {a : Addr} {xs : List V} (e : Same H H') (h : SqT K H a xs) : SqT K H' a xs := by
  rcases h with (h | ⟨o, h⟩) | h
  · exact .inl (.inl (e _ _ h))
  · exact .inl (.inr ⟨o, e _ _ h⟩)
  · exact .inr h
section
variable {W : Wd} {F F' : Hp} (s : Same F F')
include s
mutual
theorem Rep.mono : ∀ {v : V} {t : T}, Rep W F v t → Rep W F' v t
  | _, _, .non => .non
  | _, _, .bl b => .bl b
  | _, _, .int b => .int b
  | _, _, .str b => .str b
  | _, _, .tup h r => .tup (s _ _ h) (Reps.mono r)
  | _, _, .lst h r => .lst (s _ _ h) (Reps.mono r)
  | _, _, .frl h r => .frl (s.seq h) (Reps.mono r)
  | _, _, .dK h r => .dK (s _ _ h) (RepD.mono r)
  | _, _, .dT h r => .dT (s _ _ h) (RepE.mono r)
  | _, _, .ins c h r => .ins c (s _ _ h) (RepF.mono r)
theorem Reps.mono : ∀ {v : List V} {t : List T}, Reps W F v t → Reps W F' v t
  | _, _, .nil => .nil
  | _, _, .cons h r => .cons (Rep.mono h) (Reps.mono r)
theorem RepD.mono : ∀ {v : List (Key × V)} {t : List (T × T)}, RepD W F v t → RepD W F' v t
  | _, _, .nil => .nil
  | _, _, .cons k h r => .cons k (Rep.mono h) (RepD.mono r)
theorem RepE.mono : ∀ {v : List (List Key × V)} {t : List (T × T)}, RepE W F v t → RepE W F' v t
  | _, _, .nil => .nil
  | _, _, .cons k h r => .cons k (Rep.mono h) (RepE.mono r)
theorem RepF.mono : ∀ {v : List (Str × V)} {t : List (String × T)}, RepF W F v t → RepF W F' v t
  | _, _, .nil => .nil
  | _, _, .cons h r => .cons (Rep.mono h) (RepF.mono r)
end
end
/-- what stands at an own object -/
inductive RepO (W : Wd) (F : Hp) : HO → T → Prop
  | lst {vs : List V} {ts : List T} : Reps W F vs ts → RepO W F (.lst vs) (.lst ts)
  | dK {kvs : List (Key × V)} {ts : List (T × T)} : RepD W F kvs ts → RepO W F (.dK kvs) (.dct false ts)
  | dT {kvs : List (List Key × V)} {ts : List (T × T)} : RepE W F kvs ts → RepO W F (.dT kvs) (.dct true ts)
  | ins {C dx : Addr} {c : String} {fs : List (Str × V)} {gs : List (String × T)} : W.cA c = some C → RepF W F fs gs → RepO W F (.ins C dx fs) (.ins c gs)
theorem RepO.mono {W : Wd} {F F' : Hp} (s : Same F F') {o : HO} {t : T} : RepO W F o t → RepO W F' o t
  | .lst h => .lst (h.mono s)
  | .dK h => .dK (h.mono s)
  | .dT h => .dT (h.mono s)
  | .ins c h => .ins c (h.mono s)
theorem RepO.rep {W : Wd} {F : Hp} {o : HO} {t : T} {a : Addr} (h : RepO W F o t) (e : F a = some o) : Rep W F (.ref a) t := by
  cases h with
  | lst h => exact .lst e h
  | dK h => exact .dK e h
  | dT h => exact .dT e h
  | ins c h => exact .ins c e h
/-- a slot that holds an own object (walked ones too) -/
def Slot.mineT : Slot → Option T
  | .ow t => some t
  | .bo t => some t
  | .lk t => some t
  | _ => none
/-- one that may be changed now -/
def Slot.mutT : Slot → Option T
  | .ow t => some t
  | .bo t => some t
  | _ => none
/-- the own objects that the frame may give away -/
def Ow (σ : Sl) (g : G) (a : Addr) : Prop := ∃ (i : Nat) (t : T), g[i]? = some (Slot.ow t) ∧ σ[i]? = some (some (.ref a))
/-- the objects that may be changed now -/
def Mu (σ : Sl) (g : G) (a : Addr) : Prop := ∃ (i : Nat) (s : Slot) (t : T), g[i]? = some s ∧ s.mutT = some t ∧ σ[i]? = some (some (.ref a))
def SlotOk (W : Wd) (σ : Sl) (H F : Hp) (i : Nat) : Slot → Prop
  | .no => True
  | .sh t => ∃ v, σ[i]? = some (some v) ∧ Rep W F v t
  | s => ∃ a o t, s.mineT = some t ∧ σ[i]? = some (some (.ref a)) ∧ F a = none ∧ H a = some o ∧ RepO W F o t
/-- the state: the slots' values σ, the heap H, its part F that never changes, what we know g -/
structure Sta (W : Wd) (σ : Sl) (H F : Hp) (g : G) : Prop where
  same : Same F H
  slot : ∀ (i : Nat) (s : Slot), g[i]? = some s → SlotOk W σ H F i s
  apart : ∀ (i j : Nat) (a : Addr) (s s' : Slot) (t t' : T), g[i]? = some s → g[j]? = some s' → s.mineT = some t → s'.mineT = some t' → σ[i]? = some (some (.ref a)) → σ[j]? = some (some (.ref a)) → i = j
  len : g.length = σ.length
/-- from one state to a later one -/
structure Ext (W : Wd) (σ : Sl) (H F : Hp) (g : G) (σ' : Sl) (H' F' : Hp) (g' : G) : Prop where
  st : Sta W σ' H' F' g'
  mono : Same F F'
  keep : ∀ (a : Addr) (o : HO), H a = some o → ¬ Mu σ g a → H' a = some o
  dom : ∀ (a : Addr) (o : HO), H a = some o → ∃ o', H' a = some o'
  ownO : ∀ (a : Addr), Ow σ' g' a → Ow σ g a ∨ H a = none
  newF : ∀ (a : Addr) (o : HO), F' a = some o → F a = some o ∨ H a = none ∨ Ow σ g a
  bor : ∀ (i : Nat), (∃ t : T, g[i]? = some (Slot.bo t)) ↔ (∃ t : T, g'[i]? = some (Slot.bo t))
  borS : ∀ (i : Nat) (t : T), g[i]? = some (Slot.bo t) → σ'[i]? = σ[i]?
  lck : ∀ (i : Nat) (t : T), g[i]? = some (Slot.lk t) ↔ g'[i]? = some (Slot.lk t)
  lckS : ∀ (i : Nat) (t : T), g[i]? = some (Slot.lk t) → σ'[i]? = σ[i]?
theorem Mu.iff {σ : Sl} {g : G} {a : Addr} : Mu σ g a ↔ Ow σ g a ∨ ∃ (i : Nat) (t : T), g[i]? = some (Slot.bo t) ∧ σ[i]? = some (some (.ref a)) := by
  constructor
  · rintro ⟨i, s, t, h, m, z⟩
    cases s with
    | ow u => exact .inl ⟨i, u, h, z⟩
    | bo u => exact .inr ⟨i, u, h, z⟩
    | _ => cases m
  · rintro (⟨i, t, h, z⟩ | ⟨i, t, h, z⟩)
    · exact ⟨i, _, t, h, rfl, z⟩
    · exact ⟨i, _, t, h, rfl, z⟩
theorem Ext.own {W : Wd} {σ σ' : Sl} {H F H' F' : Hp} {g g' : G} (x : Ext W σ H F g σ' H' F' g') : ∀ (a : Addr), Mu σ' g' a → Mu σ g a ∨ H a = none := by
  intro a m
  rcases Mu.iff.mp m with m | ⟨i, t, h, z⟩
  · rcases x.ownO a m with k | k
    · exact .inl (Mu.iff.mpr (.inl k))
    · exact .inr k
  · obtain ⟨t0, h0⟩ := (x.bor i).mpr ⟨t, h⟩
    exact .inl (Mu.iff.mpr (.inr ⟨i, t0, h0, by rw [← x.borS i t0 h0]; exact z⟩))
theorem SlotOk.mine {W : Wd} {σ : Sl} {H F : Hp} {i : Nat} {s : Slot} {t : T} (h : SlotOk W σ H F i s) (e : s.mineT = some t) : ∃ a o, σ[i]? = some (some (.ref a)) ∧ F a = none ∧ H a = some o ∧ RepO W F o t := by
  cases s with
  | no => cases e
  | sh t => cases e
  | ow u => obtain ⟨a, o, t', e', h1, h2, h3, h4⟩ := h; rw [e] at e'; cases e'; exact ⟨a, o, h1, h2, h3, h4⟩
  | bo u => obtain ⟨a, o, t', e', h1, h2, h3, h4⟩ := h; rw [e] at e'; cases e'; exact ⟨a, o, h1, h2, h3, h4⟩
  | lk u => obtain ⟨a, o, t', e', h1, h2, h3, h4⟩ := h; rw [e] at e'; cases e'; exact ⟨a, o, h1, h2, h3, h4⟩
theorem SlotOk.of_mine {W : Wd} {σ : Sl} {H F : Hp} {i : Nat} {s : Slot} {t : T} {a : Addr} {o : HO} (e : s.mineT = some t) (h1 : σ[i]? = some (some (.ref a))) (h2 : F a = none) (h3 : H a = some o) (h4 : RepO W F o t) : SlotOk W σ H F i s := by
  cases s with
  | no => cases e
  | sh t => cases e
  | ow u => exact ⟨a, o, t, e, h1, h2, h3, h4⟩
  | bo u => exact ⟨a, o, t, e, h1, h2, h3, h4⟩
  | lk u => exact ⟨a, o, t, e, h1, h2, h3, h4⟩
theorem Slot.mine_of_mut {s : Slot} {t : T} (h : s.mutT = some t) : s.mineT = some t := by
  cases s <;> first | exact h | cases h
section
variable {W : Wd} {σ σ1 σ2 : Sl} {H F H1 F1 H2 F2 : Hp} {g g1 g2 : G}
theorem Sta.refl (st : Sta W σ H F g) : Ext W σ H F g σ H F g :=
  ⟨st, Same.refl _, fun _ _ h _ => h, fun _ o h => ⟨o, h⟩, fun _ h => .inl h, fun _ _ h => .inl h, fun _ => Iff.rfl, fun _ _ _ => rfl, fun _ _ => Iff.rfl, fun _ _ _ => rfl⟩
theorem Ext.trans (a : Ext W σ H F g σ1 H1 F1 g1) (b : Ext W σ1 H1 F1 g1 σ2 H2 F2 g2) : Ext W σ H F g σ2 H2 F2 g2 where
  st := b.st
  mono := a.mono.trans b.mono
  keep := fun x o h n => b.keep x o (a.keep x o h n) fun m => by
    rcases a.own x m with q | q
    · exact n q
    · rw [h] at q; cases q
  dom := fun x o h => by
    obtain ⟨o1, h1⟩ := a.dom x o h
    exact b.dom x o1 h1
  ownO := fun x m => by
    rcases b.ownO x m with q | q
    · exact a.ownO x q
    · refine .inr ?_
      cases e : H x with
      | none => rfl
      | some o =>
        obtain ⟨o1, h1⟩ := a.dom x o e
        rw [h1] at q; cases q
  newF := fun x o m => by
    rcases b.newF x o m with q | q | q
    · exact a.newF x o q
    · refine .inr (.inl ?_)
      cases e : H x with
      | none => rfl
      | some o =>
        obtain ⟨o1, h1⟩ := a.dom x o e
        rw [h1] at q; cases q
    · rcases a.ownO x q with k | k
      · exact .inr (.inr k)
      · exact .inr (.inl k)
  bor := fun i => (a.bor i).trans (b.bor i)
  borS := fun i t h => by
    obtain ⟨t1, h1⟩ := (a.bor i).mp ⟨t, h⟩
    rw [b.borS i t1 h1, a.borS i t h]
  lck := fun i t => (a.lck i t).trans (b.lck i t)
  lckS := fun i t h => by
    rw [b.lckS i t ((a.lck i t).mp h), a.lckS i t h]
end
/-- a new object: nobody's but the one's who made it -/
def New (W : Wd) (H : Hp) (H' F' : Hp) (v : V) (t : T) : Prop := ∃ a o, v = .ref a ∧ H a = none ∧ H' a = some o ∧ F' a = none ∧ RepO W F' o t
/-- a look at a value as it stands -/
inductive Cur (W : Wd) (H F : Hp) : V → T → Prop
  | rep {v : V} {t : T} : Rep W F v t → Cur W H F v t
  | here {a : Addr} {o : HO} {t : T} : H a = some o → RepO W F o t → Cur W H F (.ref a) t
def CE.isVar : CE → Bool
  | .var _ => true
  | _ => false
/-- the answer of an expression -/
def Val (W : Wd) (e : CE) (H H' F' : Hp) (r : Bool × T) (v : V) : Prop :=
  if r.1 then New W H H' F' v r.2 else if e.isVar then Cur W H' F' v r.2 else Rep W F' v r.2
/-- a step of the built-in kind: what stood stays -/
structure Out (W : Wd) (H F : Hp) (r : Bool × T) (v : V) (H' F' : Hp) : Prop where
  hh : Same H H'
  ff : Same F F'
  fh : Same F' H'
  new : ∀ a o, F' a = some o → F a = some o ∨ H a = none
  val : if r.1 then New W H H' F' v r.2 else Rep W F' v r.2
section
variable {W : Wd} {σ : Sl} {H F H1 F1 : Hp} {g : G} {r : Bool × T} {v : V}
theorem Sta.grow (st : Sta W σ H F g) (hh : Same H H1) (ff : Same F F1) (fh : Same F1 H1) (new : ∀ a o, F1 a = some o → F a = some o ∨ H a = none) : Ext W σ H F g σ H1 F1 g where
  st := by
    refine ⟨fh, fun i s h => ?_, st.apart, st.len⟩
    have q := st.slot i s h
    cases e : s.mineT with
    | some t =>
      obtain ⟨a, o, h1, h2, h3, h4⟩ := q.mine e
      refine .of_mine e h1 ?_ (hh _ _ h3) (h4.mono ff)
      cases z : F1 a with
      | none => rfl
      | some u =>
        rcases new a u z with w | w
        · rw [h2] at w; cases w
        · rw [h3] at w; cases w
    | none =>
      cases s with
      | no => trivial
      | sh t => obtain ⟨v, h1, h2⟩ := q; exact ⟨v, h1, h2.mono ff⟩
      | _ => cases e
  mono := ff
  keep := fun a o h _ => hh a o h
  dom := fun a o h => ⟨o, hh a o h⟩
  ownO := fun a h => .inl h
  newF := fun a o h => by
    rcases new a o h with k | k
    · exact .inl k
    · exact .inr (.inl k)
  bor := fun _ => Iff.rfl
  borS := fun _ _ _ => rfl
  lck := fun _ _ => Iff.rfl
  lckS := fun _ _ _ => rfl
theorem Out.ext (st : Sta W σ H F g) (o : Out W H F r v H1 F1) : Ext W σ H F g σ H1 F1 g := st.grow o.hh o.ff o.fh o.new
theorem Out.valX {e : CE} {H0 : Hp} (o : Out W H F r v H1 F1) (d : ∀ a x, H0 a = some x → ∃ y, H a = some y) (ne : e.isVar = false) : Val W e H0 H1 F1 r v := by
  unfold Val
  have q := o.val
  split
  · rename_i h
    rw [if_pos h] at q
    obtain ⟨a, u, e1, e2, e3, e4, e5⟩ := q
    refine ⟨a, u, e1, ?_, e3, e4, e5⟩
    cases z : H0 a with
    | none => rfl
    | some x =>
      obtain ⟨y, hy⟩ := d a x z
      rw [e2] at hy; cases hy
  · rename_i h
    rw [if_neg h] at q
    rw [ne]
    exact q
/-- a value that needs no heap -/
theorem Out.flat {t : T} (s : Same F H) (h : Rep W F v t) : Out W H F (false, t) v H F := ⟨Same.refl _, Same.refl _, s, fun _ _ h => .inl h, h⟩
theorem upd_same_of {H : Hp} {p : Addr} {o : HO} (h : H p = none) : Same H (upd H p o) := fun b x e => by
  rw [upd_ne (ne_of_none e h)]
  exact e
theorem same_upd {F H : Hp} {p : Addr} {o : HO} (s : Same F H) : Same (upd F p o) (upd H p o) := fun b x e => by
  by_cases hb : b = p
  · subst hb; rw [upd_same] at e ⊢; exact e
  · rw [upd_ne hb] at e ⊢; exact s _ _ e
/-- a new own object -/
theorem Out.newOwn {p : Addr} {o : HO} {t : T} (s : Same F H) (hp : H p = none) (h : RepO W F o t) : Out W H F (true, t) (.ref p) (upd H p o) F :=
  ⟨upd_same_of hp, Same.refl _, s.trans (upd_same_of hp), fun _ _ h => .inl h, ⟨p, o, rfl, hp, upd_same, s.free hp, h⟩⟩
/-- a new object that never changes -/
theorem Out.newTup {p : Addr} {vs : List V} {ts : List T} (s : Same F H) (hp : H p = none) (h : Reps W F vs ts) : Out W H F (false, .tup ts) (.ref p) (upd H p (.tup vs)) (upd F p (.tup vs)) := by
  refine ⟨upd_same_of hp, upd_same_of (s.free hp), same_upd s, fun a o e => ?_, .tup upd_same (h.mono (upd_same_of (s.free hp)))⟩
  by_cases ha : a = p
  · subst ha; exact .inr hp
  · rw [upd_ne ha] at e; exact .inl e
end
/-! ### freezing -/
section
variable {W : Wd} {σ σ1 : Sl} {H F H1 F1 : Hp} {g g1 : G}
/-- a new object is kept: from here on it never changes -/
theorem Ext.freeze {a : Addr} {o : HO} (x : Ext W σ H F g σ1 H1 F1 g1) (h0 : H a = none) (h1 : H1 a = some o) (hf : F1 a = none) (na : ∀ (i : Nat) (s : Slot) (t : T), g1[i]? = some s → s.mineT = some t → σ1[i]? ≠ some (some (.ref a))) : Ext W σ H F g σ1 H1 (upd F1 a o) g1 where
  st := by
    refine ⟨fun b u e => ?_, fun i s h => ?_, x.st.apart, x.st.len⟩
    · by_cases hb : b = a
      · subst hb; rw [upd_same] at e; cases e; exact h1
      · rw [upd_ne hb] at e; exact x.st.same _ _ e
    · have q := x.st.slot i s h
      cases e : s.mineT with
      | some t =>
        obtain ⟨b, u, e1, e2, e3, e4⟩ := q.mine e
        have hb : b ≠ a := fun z => na i s t h e (by rw [e1, z])
        exact .of_mine e e1 (by rw [upd_ne hb]; exact e2) e3 (e4.mono (upd_same_of hf))
      | none =>
        cases s with
        | no => trivial
        | sh t => obtain ⟨v, e1, e2⟩ := q; exact ⟨v, e1, e2.mono (upd_same_of hf)⟩
        | _ => cases e
  mono := x.mono.trans (upd_same_of hf)
  keep := x.keep
  dom := x.dom
  ownO := x.ownO
  newF := fun b u e => by
    by_cases hb : b = a
    · subst hb; exact .inr (.inl h0)
    · rw [upd_ne hb] at e; exact x.newF b u e
  bor := x.bor
  borS := x.borS
  lck := x.lck
  lckS := x.lckS
theorem get_set {g : G} {i j : Nat} {s s' : Slot} (h : (g.set i s)[j]? = some s') : (i = j ∧ s' = s) ∨ (i ≠ j ∧ g[j]? = some s') := by
  by_cases e : i = j
  · subst e
    by_cases hi : i < g.length
    · rw [List.getElem?_set_self hi] at h; cases h; exact .inl ⟨rfl, rfl⟩
    · rw [List.getElem?_eq_none (by rw [List.length_set]; omega)] at h; cases h
  · rw [List.getElem?_set_ne e] at h; exact .inr ⟨e, h⟩
theorem set_get {g : G} {i : Nat} {s s' : Slot} (h : g[i]? = some s') : (g.set i s)[i]? = some s := by
  obtain ⟨hi, _⟩ := List.getElem?_eq_some_iff.mp h
  exact List.getElem?_set_self hi
theorem set_get_ne {g : G} {i j : Nat} {s : Slot} (h : i ≠ j) : (g.set i s)[j]? = g[j]? := List.getElem?_set_ne h
/-- a slot's own object is kept elsewhere: it never changes from here on -/
theorem Sta.share {i : Nat} {t : T} {a : Addr} {o : HO} (st : Sta W σ H F g) (hi : g[i]? = some (.ow t)) (hs : σ[i]? = some (some (.ref a))) (ho : H a = some o) : Ext W σ H F g σ H (upd F a o) (g.set i (.sh t)) ∧ Rep W (upd F a o) (.ref a) t := by
  obtain ⟨b, u, e1, e2, e3, e4⟩ := (st.slot i _ hi).mine (t := t) rfl
  rw [hs] at e1; cases e1
  rw [ho] at e3; cases e3
  have rp : Rep W (upd F a o) (.ref a) t := (e4.mono (upd_same_of e2)).rep upd_same
  refine ⟨⟨⟨fun b u e => ?_, fun j s h => ?_, fun j k b s s' t t' h h' m m' z z' => ?_, by rw [List.length_set]; exact st.len⟩, upd_same_of e2, fun _ _ h _ => h, fun _ o h => ⟨o, h⟩, ?_, fun b u e => ?_, fun j => ?_, fun _ _ _ => rfl, fun j u => ?_, fun _ _ _ => rfl⟩, rp⟩
  · by_cases hb : b = a
    · subst hb; rw [upd_same] at e; cases e; exact ho
    · rw [upd_ne hb] at e; exact st.same _ _ e
  · rcases get_set h with ⟨rfl, rfl⟩ | ⟨ne, h⟩
    · exact ⟨_, hs, rp⟩
    · have q := st.slot j s h
      cases e : s.mineT with
      | some t' =>
        obtain ⟨b, u, f1, f2, f3, f4⟩ := q.mine e
        have hb : b ≠ a := fun z => ne (st.apart i j a _ _ _ _ hi h rfl e hs (by rw [f1, z]))
        exact .of_mine e f1 (by rw [upd_ne hb]; exact f2) f3 (f4.mono (upd_same_of e2))
      | none =>
        cases s with
        | no => trivial
        | sh t => obtain ⟨v, f1, f2⟩ := q; exact ⟨v, f1, f2.mono (upd_same_of e2)⟩
        | _ => cases e
  · rcases get_set h with ⟨rfl, rfl⟩ | ⟨ne, h⟩
    · cases m
    · rcases get_set h' with ⟨rfl, rfl⟩ | ⟨ne', h'⟩
      · cases m'
      · exact st.apart j k b s s' t t' h h' m m' z z'
  · rintro b ⟨j, u, h, z⟩
    rcases get_set h with ⟨rfl, e⟩ | ⟨ne, h⟩
    · cases e
    · exact .inl ⟨j, u, h, z⟩
  · by_cases hb : b = a
    · subst hb; exact .inr (.inr ⟨i, t, hi, hs⟩)
    · rw [upd_ne hb] at e; exact .inl e
  · constructor
    · rintro ⟨u, h⟩
      by_cases e : i = j
      · subst e; rw [hi] at h; cases h
      · exact ⟨u, by rw [set_get_ne e]; exact h⟩
    · rintro ⟨u, h⟩
      rcases get_set h with ⟨rfl, e⟩ | ⟨ne, h⟩
      · cases e
      · exact ⟨u, h⟩
  · constructor
    · intro h
      by_cases e : i = j
      · subst e; rw [hi] at h; cases h
      · rw [set_get_ne e]; exact h
    · intro h
      rcases get_set h with ⟨rfl, e⟩ | ⟨ne, h⟩
      · cases e
      · exact h
end
end PV

/-! PV5: operators on values, by L2's rules -/
namespace PV
open PySem PySem.Spec PyProof.Rows L2
theorem ofString_inj {a b : String} (h : Str.ofString a = Str.ofString b) : a = b := by
  rw [Str.ofString_eq_toList, Str.ofString_eq_toList] at h
  injection h with h
  have h2 : a.toList.map Char.toNat = b.toList.map Char.toNat := by simpa using congrArg Array.toList h
  have h3 : a.toList = b.toList := by
    refine List.map_inj_right (fun x y e => ?_) |>.mp h2
    exact Char.ext (UInt32.toNat_inj.mp e)
  exact String.toList_injective h3
/-! ### data -/
mutual
def toD : T → PyData
  | .non => .none
  | .bl b => .bool b
  | .int i => .int i
  | .str s => .str (Str.ofString s)
  | .tup xs => .tuple (toDs xs)
  | .lst xs => .list (toDs xs)
  | _ => .none
def toDs : List T → List PyData
  | [] => []
  | x :: xs => toD x :: toDs xs
end
section
variable {W : Wd} {F H : Hp} (s : Same F H)
include s
mutual
theorem Rep.dp : ∀ {n : Nat} {v : V} {t : T}, T.plain n t = true → Rep W F v t → Dp W.K H v (toD t)
  | _, _, _, _, .non => by simp only [toD]; exact .non
  | _, _, _, _, .bl b => by simp only [toD]; exact .bl b
  | _, _, _, _, .int b => by simp only [toD]; exact .int b
  | _, _, _, _, .str b => by simp only [toD]; exact .str _
  | 0, _, _, p, .tup h r => by simp [T.plain] at p
  | n + 1, _, _, p, .tup h r => by simp only [toD]; exact .tup (.of (s _ _ h)) (Reps.dp (by simpa only [T.plain] using p) r)
  | 0, _, _, p, .lst h r => by simp [T.plain] at p
  | n + 1, _, _, p, .lst h r => by simp only [toD]; exact .lst (.of (s _ _ h)) (Reps.dp (by simpa only [T.plain] using p) r)
  | 0, _, _, p, .frl h r => by simp [T.plain] at p
  | n + 1, _, _, p, .frl h r => by simp [T.plain] at p
  | 0, _, _, p, .dK h r => by simp [T.plain] at p
  | n + 1, _, _, p, .dK h r => by simp [T.plain] at p
  | 0, _, _, p, .dT h r => by simp [T.plain] at p
  | n + 1, _, _, p, .dT h r => by simp [T.plain] at p
  | 0, _, _, p, .ins c h r => by simp [T.plain] at p
  | n + 1, _, _, p, .ins c h r => by simp [T.plain] at p
theorem Reps.dp : ∀ {n : Nat} {v : List V} {t : List T}, T.plains n t = true → Reps W F v t → DpAll W.K H v (toDs t)
  | _, _, _, _, .nil => by simp only [toDs]; exact .nil
  | n, _, _, p, .cons h r => by
    simp only [T.plains, Bool.and_eq_true] at p
    simp only [toDs]
    exact .cons (Rep.dp p.1 h) (Reps.dp p.2 r)
end
end
mutual
theorem plain_lay : ∀ {n : Nat} {t : T}, T.plain n t = true → (toD t).canLay0 = true ∧ (toD t).depth ≤ n
  | n, .non, _ => by simp [toD, PyData.canLay0, PyData.depth]
  | n, .bl _, _ => by simp [toD, PyData.canLay0, PyData.depth]
  | n, .int _, _ => by simp [toD, PyData.canLay0, PyData.depth]
  | n, .str x, h => by
    have h' : PySem.PyData.strOk (PySem.Str.ofString x) = true := by cases n <;> simpa only [T.plain] using h
    simp [toD, PyData.canLay0, PyData.depth, h']
  | 0, .tup _, h => by simp [T.plain] at h
  | n + 1, .tup xs, h => by
    have q := plains_lay (by simpa only [T.plain] using h : T.plains n xs = true)
    simp only [toD, PyData.canLay0, PyData.depth]
    exact ⟨q.1, by omega⟩
  | 0, .lst _, h => by simp [T.plain] at h
  | n + 1, .lst xs, h => by
    have q := plains_lay (by simpa only [T.plain] using h : T.plains n xs = true)
    simp only [toD, PyData.canLay0, PyData.depth]
    exact ⟨q.1, by omega⟩
  | n, .frl _, h => by cases n <;> simp [T.plain] at h
  | n, .dct _ _, h => by cases n <;> simp [T.plain] at h
  | n, .ins _ _, h => by cases n <;> simp [T.plain] at h
theorem plains_lay : ∀ {n : Nat} {ts : List T}, T.plains n ts = true → PyData.canLayAll0 (toDs ts) = true ∧ PyData.depthAll (toDs ts) ≤ n
  | n, [], _ => by simp [toDs, PyData.canLayAll0, PyData.depthAll]
  | n, t :: ts, h => by
    simp only [T.plains, Bool.and_eq_true] at h
    have q1 := plain_lay h.1
    have q2 := plains_lay h.2
    simp only [toDs, PyData.canLayAll0, PyData.depthAll, q1.1, q2.1]
    exact ⟨rfl, by omega⟩
end
theorem plain_shaped {t : T} (h : T.plain deep t = true) : SeqAt.shaped (toD t) = true := by
  have q := plain_lay h
  unfold SeqAt.shaped
  rw [q.1, Bool.true_and]
  have : deep = 60 := rfl
  exact decide_eq_true (by omega)
theorem str_beq {a b : String} : (Str.ofString a == Str.ofString b) = (a == b) := by
  rw [Bool.eq_iff_iff]
  simp only [beq_iff_eq]
  exact ⟨ofString_inj, fun h => by rw [h]⟩
mutual
theorem eqv_eq : ∀ {n m : Nat} {a b : T}, T.plain n a = true → T.plain m b = true → PyData.eqv (toD a) (toD b) = a.eq b
  | n, m, a, b, ha, hb => by
    cases a with
    | tup xs =>
      cases n with
      | zero => simp [T.plain] at ha
      | succ n =>
        cases b with
        | tup ys =>
          cases m with
          | zero => simp [T.plain] at hb
          | succ m =>
            simp only [toD, PyData.eqv, T.eq]
            exact eqvs_eq (by simpa only [T.plain] using ha) (by simpa only [T.plain] using hb)
        | frl _ => cases m <;> simp [T.plain] at hb
        | dct _ _ => cases m <;> simp [T.plain] at hb
        | ins _ _ => cases m <;> simp [T.plain] at hb
        | _ => simp [toD, PyData.eqv, T.eq]
    | lst xs =>
      cases n with
      | zero => simp [T.plain] at ha
      | succ n =>
        cases b with
        | lst ys =>
          cases m with
          | zero => simp [T.plain] at hb
          | succ m =>
            simp only [toD, PyData.eqv, T.eq]
            exact eqvs_eq (by simpa only [T.plain] using ha) (by simpa only [T.plain] using hb)
        | frl _ => cases m <;> simp [T.plain] at hb
        | dct _ _ => cases m <;> simp [T.plain] at hb
        | ins _ _ => cases m <;> simp [T.plain] at hb
        | _ => simp [toD, PyData.eqv, T.eq]
    | frl _ => cases n <;> simp [T.plain] at ha
    | dct _ _ => cases n <;> simp [T.plain] at ha
    | ins _ _ => cases n <;> simp [T.plain] at ha
    | str x =>
      cases b with
      | str y => simp only [toD, PyData.eqv, T.eq]; exact str_beq
      | frl _ => cases m <;> simp [T.plain] at hb
      | dct _ _ => cases m <;> simp [T.plain] at hb
      | ins _ _ => cases m <;> simp [T.plain] at hb
      | _ => simp [toD, PyData.eqv, T.eq]
    | _ =>
      cases b with
      | frl _ => cases m <;> simp [T.plain] at hb
      | dct _ _ => cases m <;> simp [T.plain] at hb
      | ins _ _ => cases m <;> simp [T.plain] at hb
      | _ => simp [toD, PyData.eqv, T.eq]
theorem eqvs_eq : ∀ {n m : Nat} {a b : List T}, T.plains n a = true → T.plains m b = true → PyData.eqvAll (toDs a) (toDs b) = T.eqs a b
  | n, m, [], [], _, _ => by simp [toDs, PyData.eqvAll, T.eqs]
  | n, m, [], _ :: _, _, _ => by simp [toDs, PyData.eqvAll, T.eqs]
  | n, m, _ :: _, [], _, _ => by simp [toDs, PyData.eqvAll, T.eqs]
  | n, m, x :: xs, y :: ys, ha, hb => by
    simp only [T.plains, Bool.and_eq_true] at ha hb
    simp only [toDs, PyData.eqvAll, T.eqs]
    rw [eqv_eq ha.1 hb.1, eqvs_eq ha.2 hb.2]
end
end PV

/-! PV6: operators -/
namespace PV
open PySem PySem.Spec PyProof.Rows L2
theorem lim_le : lim ≤ sizeLine := by rw [sizeLine_eq]; decide
section
variable {W : Wd} {F H : Hp}
theorem Rep.int_inv {v : V} {i : Int} (h : Rep W F v (.int i)) : v = .int i := by cases h; rfl
theorem Rep.bl_inv {v : V} {i : Bool} (h : Rep W F v (.bl i)) : v = .bl i := by cases h; rfl
theorem Rep.non_inv {v : V} (h : Rep W F v .non) : v = .non := by cases h; rfl
theorem Rep.str_inv {v : V} {x : String} (h : Rep W F v (.str x)) : v = .str (Str.ofString x) := by cases h; rfl
theorem Rep.tup_inv {v : V} {ts : List T} (h : Rep W F v (.tup ts)) : ∃ a vs, v = .ref a ∧ F a = some (.tup vs) ∧ Reps W F vs ts := by
  cases h with
  | tup h r => exact ⟨_, _, rfl, h, r⟩
theorem Rep.lst_inv {v : V} {ts : List T} (h : Rep W F v (.lst ts)) : ∃ a vs, v = .ref a ∧ F a = some (.lst vs) ∧ Reps W F vs ts := by
  cases h with
  | lst h r => exact ⟨_, _, rfl, h, r⟩
theorem Reps.length {vs : List V} {ts : List T} (h : Reps W F vs ts) : vs.length = ts.length := by
  induction ts generalizing vs with
  | nil => cases h; rfl
  | cons t ts ih => cases h with | cons a b => rw [List.length_cons, List.length_cons, ih b]
theorem Reps.append {vs ws : List V} {ts us : List T} (h : Reps W F vs ts) (k : Reps W F ws us) : Reps W F (vs ++ ws) (ts ++ us) := by
  induction ts generalizing vs with
  | nil => cases h; exact k
  | cons t ts ih => cases h with | cons a b => exact .cons a (ih b)
theorem Reps.get {vs : List V} {ts : List T} {j : Nat} {t : T} (h : Reps W F vs ts) (e : ts[j]? = some t) : ∃ v, vs[j]? = some v ∧ Rep W F v t := by
  induction ts generalizing vs j with
  | nil => simp at e
  | cons x ts ih =>
    cases h with
    | cons a b =>
      cases j with
      | zero => simp at e; subst e; exact ⟨_, rfl, a⟩
      | succ j => simp at e; obtain ⟨v, h1, h2⟩ := ih b e; exact ⟨v, by simpa using h1, h2⟩
theorem Reps.take {vs : List V} {ts : List T} (h : Reps W F vs ts) (n : Nat) : Reps W F (vs.take n) (ts.take n) := by
  induction ts generalizing vs n with
  | nil => cases h; simp; exact .nil
  | cons t ts ih =>
    cases h with
    | cons a b => cases n with
      | zero => simp; exact .nil
      | succ n => exact .cons a (ih b n)
theorem Reps.drop {vs : List V} {ts : List T} (h : Reps W F vs ts) (n : Nat) : Reps W F (vs.drop n) (ts.drop n) := by
  induction ts generalizing vs n with
  | nil => cases h; simp; exact .nil
  | cons t ts ih =>
    cases h with
    | cons a b => cases n with
      | zero => exact .cons a b
      | succ n => exact ih b n
theorem Reps.set {vs : List V} {ts : List T} {v : V} {t : T} (h : Reps W F vs ts) (n : Nat) (k : Rep W F v t) : Reps W F (vs.set n v) (ts.set n t) := by
  induction ts generalizing vs n with
  | nil => cases h; simp; exact .nil
  | cons t ts ih =>
    cases h with
    | cons a b => cases n with
      | zero => exact .cons k b
      | succ n => exact .cons a (ih b n)
theorem Reps.reverse {vs : List V} {ts : List T} (h : Reps W F vs ts) : Reps W F vs.reverse ts.reverse := by
  induction ts generalizing vs with
  | nil => cases h; exact .nil
  | cons t ts ih =>
    cases h with
    | cons a b => rw [List.reverse_cons, List.reverse_cons]; exact (ih b).append (.cons a .nil)
theorem Reps.flat {vs : List V} {ts : List T} (h : Reps W F vs ts) (k : Nat) : Reps W F (List.replicate k vs).flatten (List.replicate k ts).flatten := by
  induction k with
  | zero => simp; exact .nil
  | succ k ih => rw [List.replicate_succ, List.replicate_succ, List.flatten_cons, List.flatten_cons]; exact h.append ih
theorem Reps.eraseIdx {vs : List V} {ts : List T} (h : Reps W F vs ts) (n : Nat) : Reps W F (vs.eraseIdx n) (ts.eraseIdx n) := by
  induction ts generalizing vs n with
  | nil => cases h; simp; exact .nil
  | cons t ts ih =>
    cases h with
    | cons a b => cases n with
      | zero => exact b
      | succ n => exact .cons a (ih b n)
theorem Reps.ints {vs : List V} {ts : List T} {ns : List Int} (h : Reps W F vs ts) (e : getInts ts = some ns) : vs = ns.map V.int := by
  induction ts generalizing vs ns with
  | nil => cases h; simp [getInts] at e; subst e; rfl
  | cons t ts ih =>
    cases h with
    | cons a b =>
      cases t with
      | int i =>
        simp only [getInts] at e
        cases q : getInts ts with
        | none => rw [q] at e; cases e
        | some is => rw [q] at e; cases e; rw [ih b q, a.int_inv]; rfl
      | _ => simp [getInts] at e
theorem Reps.bools {vs : List V} {ts : List T} {ns : List Bool} (h : Reps W F vs ts) (e : getBools ts = some ns) : vs = ns.map V.bl := by
  induction ts generalizing vs ns with
  | nil => cases h; simp [getBools] at e; subst e; rfl
  | cons t ts ih =>
    cases h with
    | cons a b =>
      cases t with
      | bl i =>
        simp only [getBools] at e
        cases q : getBools ts with
        | none => rw [q] at e; cases e
        | some is => rw [q] at e; cases e; rw [ih b q, a.bl_inv]; rfl
      | _ => simp [getBools] at e
theorem reps_ints (F : Hp) (ns : List Int) : Reps W F (ns.map V.int) (ns.map T.int) := by
  induction ns with
  | nil => exact .nil
  | cons n ns ih => exact .cons (.int n) ih
end
/-- the end of a rule: an answer and a later heap -/
abbrev End (W : Wd) (F H : Hp) (r : Bool × T) (Q : VK) : Prop := ∀ w H' F', Out W H F r w H' F' → Q w H'
def Op2.op : Op2 → Operator
  | .add => .Add | .sub => .Sub | .mul => .Mult | .fdiv => .FloorDiv | .mod => .Mod | .pow => .Pow | .shl => .LShift
def rB (W : Wd) (o : Op2) : R2 := fun v u H Q => ∃ F x y r, Same F H ∧ Rep W F v x ∧ Rep W F u y ∧ bin2 o x y = some r ∧ End W F H r Q
section
variable {X : Cx} {W : Wd}
theorem End.flat {F H : Hp} {t : T} {Q : VK} {v : V} (e : End W F H (false, t) Q) (s : Same F H) (h : Rep W F v t) : Q v H := e v H F (.flat s h)
theorem End.own {F H : Hp} {t : T} {Q : VK} {o : HO} (e : End W F H (true, t) Q) (s : Same F H) (h : RepO W F o t) : ∀ p, H p = none → Q (.ref p) (upd H p o) := fun p hp => e _ _ _ (.newOwn s hp h)
theorem End.tup {F H : Hp} {ts : List T} {Q : VK} {vs : List V} (e : End W F H (false, .tup ts) Q) (s : Same F H) (h : Reps W F vs ts) : ∀ p, H p = none → Q (.ref p) (upd H p (.tup vs)) := fun p hp => e _ _ _ (.newTup s hp h)
theorem op2_ok (hK : X.K = W.K) (o : Op2) : OpR X (binaryOp o.op) (rB W o) := by
  intro pins s σ H x y v u Q I rx ry ⟨F, a, b, r, sm, ra, rb, e, q⟩
  cases o with
  | add =>
    cases a with
    | int i =>
      cases b with
      | int j =>
        simp only [bin2, Option.some.injEq] at e; subst e
        exact op_add pins s σ H x y v u Q I rx ry ⟨i, j, ra.int_inv, rb.int_inv, q.flat sm (.int _)⟩
      | _ => simp [bin2] at e
    | lst xs =>
      cases b with
      | lst ys =>
        simp only [bin2] at e
        split at e
        · cases e
          obtain ⟨p, vs, rfl, h1, h2⟩ := ra.lst_inv
          obtain ⟨p', vs', rfl, h1', h2'⟩ := rb.lst_inv
          refine op_cat pins s σ H _ _ v u Q I rx ry ⟨p, p', vs, vs', rfl, rfl, sm _ _ h1, sm _ _ h1', ?_, q.own sm (.lst (h2.append h2'))⟩
          rw [h2.length, h2'.length]
          exact Nat.le_trans (by assumption) lim_le
        · cases e
      | _ => simp [bin2] at e
    | tup xs =>
      cases b with
      | tup ys =>
        simp only [bin2] at e
        split at e
        · cases e
          obtain ⟨p, vs, rfl, h1, h2⟩ := ra.tup_inv
          obtain ⟨p', vs', rfl, h1', h2'⟩ := rb.tup_inv
          refine op_catA pins s σ H _ _ v u Q I rx ry ⟨p, p', vs, vs', rfl, rfl, SqT.of (sm _ _ h1), SqT.of (sm _ _ h1'), ?_, fun e => ?_, fun e1 e2 => ?_, fun _ _ => q.tup sm (h2.append h2')⟩
          · rw [h2.length, h2'.length]
            exact Nat.le_trans (by assumption) lim_le
          · subst e
            have : xs = [] := List.length_eq_zero_iff.mp (by rw [← h2.length]; rfl)
            subst this
            exact q.flat sm (by simpa using rb)
          · subst e2
            have : ys = [] := List.length_eq_zero_iff.mp (by rw [← h2'.length]; rfl)
            subst this
            exact q.flat sm (by simpa using ra)
        · cases e
      | _ => simp [bin2] at e
    | _ => simp [bin2] at e
  | sub =>
    cases a with
    | int i =>
      cases b with
      | int j =>
        simp only [bin2, Option.some.injEq] at e; subst e
        exact op_sub pins s σ H x y v u Q I rx ry ⟨i, j, ra.int_inv, rb.int_inv, q.flat sm (.int _)⟩
      | _ => simp [bin2] at e
    | _ => simp [bin2] at e
  | mul =>
    cases a with
    | int i =>
      cases b with
      | int j =>
        simp only [bin2] at e
        split at e
        · rename_i hm
          cases e
          have fin : Q (.int (i * j)) H := q.flat sm (.int _)
          simp only [mulOk, small, lt64, Bool.or_eq_true, Bool.and_eq_true, decide_eq_true_eq] at hm
          rcases hm with hm | hm
          · exact op_mul pins s σ H x y v u Q I rx ry ⟨i, j, ra.int_inv, rb.int_inv, hm, fin⟩
          · exact op_mulW pins s σ H x y v u Q I rx ry ⟨i, j, ra.int_inv, rb.int_inv, hm, fin⟩
        · cases e
      | _ => simp [bin2] at e
    | lst xs =>
      cases b with
      | int k =>
        simp only [bin2] at e
        split at e
        · rename_i hm
          cases e
          simp only [lt62, Bool.and_eq_true, decide_eq_true_eq] at hm
          obtain ⟨p, vs, rfl, h1, h2⟩ := ra.lst_inv
          refine op_rep pins s σ H _ _ v u Q I rx ry ⟨p, k, vs, rfl, rb.int_inv, sm _ _ h1, by omega, by omega, ?_, q.own sm (.lst (h2.flat _))⟩
          rw [h2.length]
          exact Nat.le_trans hm.2 lim_le
        · cases e
      | _ => simp [bin2] at e
    | tup xs =>
      cases b with
      | int k =>
        simp only [bin2] at e
        split at e
        · rename_i hm
          cases e
          simp only [Bool.and_eq_true, decide_eq_true_eq] at hm
          obtain ⟨p, vs, rfl, h1, h2⟩ := ra.tup_inv
          refine op_repT pins s σ H _ _ v u Q I rx ry ⟨p, k, vs, rfl, rb.int_inv, SqT.of (sm _ _ h1), fun z => ?_, by omega, by omega, ?_, q.tup sm (h2.flat _)⟩
          · subst z
            have : xs = [] := List.length_eq_zero_iff.mp (by rw [← h2.length]; rfl)
            subst this
            simp at hm
          · rw [h2.length]; exact hm.1.2
        · cases e
      | _ => simp [bin2] at e
    | _ => simp [bin2] at e
  | fdiv =>
    cases a with
    | int i =>
      cases b with
      | int j =>
        simp only [bin2] at e
        split at e
        · rename_i hm
          cases e
          simp only [divOk, Bool.and_eq_true, decide_eq_true_eq] at hm
          exact op_fdivW pins s σ H x y v u Q I rx ry ⟨i, j, ra.int_inv, rb.int_inv, hm, q.flat sm (.int _)⟩
        · cases e
      | _ => simp [bin2] at e
    | _ => simp [bin2] at e
  | mod =>
    cases a with
    | int i =>
      cases b with
      | int j =>
        simp only [bin2] at e
        split at e
        · rename_i hm
          cases e
          exact op_mod pins s σ H x y v u Q I rx ry ⟨i, j, ra.int_inv, rb.int_inv, of_decide_eq_true hm, q.flat sm (.int _)⟩
        · cases e
      | _ => simp [bin2] at e
    | _ => simp [bin2] at e
  | pow =>
    cases a with
    | int i =>
      cases b with
      | int j =>
        simp only [bin2] at e
        split at e
        · rename_i hm
          cases e
          simp only [powOk, le6, blt64, Bool.and_eq_true, decide_eq_true_eq] at hm
          exact op_pow pins s σ H x y v u Q I rx ry ⟨i, j, ra.int_inv, rb.int_inv, ⟨hm.1.1, hm.1.2, hm.2⟩, q.flat sm (.int _)⟩
        · cases e
      | _ => simp [bin2] at e
    | _ => simp [bin2] at e
  | shl =>
    cases a with
    | int i =>
      cases b with
      | int j =>
        simp only [bin2] at e
        split at e
        · rename_i hm
          cases e
          simp only [powOk, le6, blt64, Bool.and_eq_true, decide_eq_true_eq] at hm
          obtain ⟨n, rfl⟩ : ∃ n : Nat, j = n := ⟨j.toNat, by omega⟩
          exact op_shlW pins s σ H x y v u Q I rx ry ⟨i, _, ra.int_inv, rb.int_inv, shl_ok hm.2 (by omega), q.flat sm (.int _)⟩
        · cases e
      | _ => simp [bin2] at e
    | _ => simp [bin2] at e
def Cm.op : Cm → CmpOp
  | .eq => .Eq | .ne => .NotEq | .lt => .Lt | .le => .LtE | .gt => .Gt | .ge => .GtE
theorem Cm.nomark (o : Cm) (b : Expr) : behindInMarks o.op b = false := by cases o <;> exact L2.nomark b
def rC (W : Wd) (o : Cm) : R2 := fun v u H Q => ∃ F x y k, Same F H ∧ Rep W F v x ∧ Rep W F u y ∧ cmp2 o x y = some k ∧ Q (.bl k) H
theorem cmp2_ok (hK : X.K = W.K) (hu : X.A.units + 64 < cLine) (o : Cm) : OpR X (compareOp o.op) (rC W o) := by
  intro pins s σ H x y v u Q I rx ry ⟨F, a, b, k, sm, ra, rb, e, q⟩
  have ord : ∀ {o : Cm} {f : Int → Int → Bool} (rule : OpR X (compareOp o.op) (rI0 fun i j => .bl (f i j))) (i j : Int), a = .int i → b = .int j → k = f i j → wpAny (model X.prog X.w) X.A (compareOp o.op v u) (EP X pins σ Q) X.xe s := by
    rintro o f rule i j rfl rfl rfl
    exact rule pins s σ H x y v u Q I rx ry ⟨i, j, ra.int_inv, rb.int_inv, q⟩
  cases o with
  | eq =>
    simp only [cmp2] at e
    split at e
    · rename_i hm
      simp only [Bool.and_eq_true] at hm
      cases e
      refine op_eqD hu pins s σ H x y v u Q I rx ry ⟨toD a, toD b, by rw [hK]; exact ra.dp sm hm.1, by rw [hK]; exact rb.dp sm hm.2, plain_shaped hm.1, plain_shaped hm.2, ?_⟩
      rw [eqv_eq hm.1 hm.2]; exact q
    · cases e
  | ne =>
    simp only [cmp2] at e
    split at e
    · rename_i hm
      simp only [Bool.and_eq_true] at hm
      cases e
      refine op_neD hu pins s σ H x y v u Q I rx ry ⟨toD a, toD b, by rw [hK]; exact ra.dp sm hm.1, by rw [hK]; exact rb.dp sm hm.2, plain_shaped hm.1, plain_shaped hm.2, ?_⟩
      rw [eqv_eq hm.1 hm.2]; exact q
    · cases e
  | lt => cases a <;> cases b <;> simp only [cmp2] at e <;> first | cases e | skip
          exact ord (o := .lt) op_lt _ _ rfl rfl rfl
  | le => cases a <;> cases b <;> simp only [cmp2] at e <;> first | cases e | skip
          exact ord (o := .le) op_le _ _ rfl rfl rfl
  | gt => cases a <;> cases b <;> simp only [cmp2] at e <;> first | cases e | skip
          exact ord (o := .gt) op_gt _ _ rfl rfl rfl
  | ge => cases a <;> cases b <;> simp only [cmp2] at e <;> first | cases e | skip
          exact ord (o := .ge) op_ge _ _ rfl rfl rfl
end
end PV

/-! PV7: looks at values, built-in functions -/
namespace PV
open PySem PySem.Spec PyProof.Rows L2
section
variable {W : Wd} {F H : Hp}
theorem Cur.lst_inv (sm : Same F H) {v : V} {ts : List T} (h : Cur W H F v (.lst ts)) : ∃ a vs, v = .ref a ∧ H a = some (.lst vs) ∧ Reps W F vs ts := by
  cases h with
  | rep h => obtain ⟨a, vs, e, h1, h2⟩ := h.lst_inv; exact ⟨a, vs, e, sm _ _ h1, h2⟩
  | here h1 h2 => cases h2 with | lst h2 => exact ⟨_, _, rfl, h1, h2⟩
theorem Cur.tup_inv (sm : Same F H) {v : V} {ts : List T} (h : Cur W H F v (.tup ts)) : ∃ a vs, v = .ref a ∧ H a = some (.tup vs) ∧ Reps W F vs ts := by
  cases h with
  | rep h => obtain ⟨a, vs, e, h1, h2⟩ := h.tup_inv; exact ⟨a, vs, e, sm _ _ h1, h2⟩
  | here h1 h2 => cases h2
theorem Cur.frl_inv (sm : Same F H) {v : V} {ts : List T} (h : Cur W H F v (.frl ts)) : ∃ a vs, v = .ref a ∧ SqL W.K H a vs ∧ Reps W F vs ts := by
  cases h with
  | rep h => cases h with | frl h1 h2 => exact ⟨_, _, rfl, sm.seq h1, h2⟩
  | here h1 h2 => cases h2
theorem Cur.dK_inv (sm : Same F H) {v : V} {ts : List (T × T)} (h : Cur W H F v (.dct false ts)) : ∃ a kvs, v = .ref a ∧ H a = some (.dK kvs) ∧ RepD W F kvs ts := by
  cases h with
  | rep h => cases h with | dK h1 h2 => exact ⟨_, _, rfl, sm _ _ h1, h2⟩
  | here h1 h2 => cases h2 with | dK h2 => exact ⟨_, _, rfl, h1, h2⟩
theorem Cur.dT_inv (sm : Same F H) {v : V} {ts : List (T × T)} (h : Cur W H F v (.dct true ts)) : ∃ a kvs, v = .ref a ∧ H a = some (.dT kvs) ∧ RepE W F kvs ts := by
  cases h with
  | rep h => cases h with | dT h1 h2 => exact ⟨_, _, rfl, sm _ _ h1, h2⟩
  | here h1 h2 => cases h2 with | dT h2 => exact ⟨_, _, rfl, h1, h2⟩
theorem Cur.ins_inv (sm : Same F H) {v : V} {c : String} {gs : List (String × T)} (h : Cur W H F v (.ins c gs)) : ∃ a C dx fs, v = .ref a ∧ W.cA c = some C ∧ H a = some (.ins C dx fs) ∧ RepF W F fs gs := by
  cases h with
  | rep h => cases h with | ins c h1 h2 => exact ⟨_, _, _, _, rfl, c, sm _ _ h1, h2⟩
  | here h1 h2 => cases h2 with | ins c h2 => exact ⟨_, _, _, _, rfl, c, h1, h2⟩
theorem Cur.int_inv {v : V} {i : Int} (h : Cur W H F v (.int i)) : v = .int i := by
  cases h with
  | rep h => exact h.int_inv
  | here h1 h2 => cases h2
theorem Cur.bl_inv {v : V} {i : Bool} (h : Cur W H F v (.bl i)) : v = .bl i := by
  cases h with
  | rep h => exact h.bl_inv
  | here h1 h2 => cases h2
theorem Cur.non_inv {v : V} (h : Cur W H F v .non) : v = .non := by
  cases h with
  | rep h => exact h.non_inv
  | here h1 h2 => cases h2
theorem Cur.str_inv {v : V} {i : String} (h : Cur W H F v (.str i)) : v = .str (Str.ofString i) := by
  cases h with
  | rep h => exact h.str_inv
  | here h1 h2 => cases h2
theorem RepD.length {kvs : List (Key × V)} {ts : List (T × T)} (h : RepD W F kvs ts) : kvs.length = ts.length := by
  induction ts generalizing kvs with
  | nil => cases h; rfl
  | cons t ts ih => cases h with | cons a b c => rw [List.length_cons, List.length_cons, ih c]
theorem RepE.length {kvs : List (List Key × V)} {ts : List (T × T)} (h : RepE W F kvs ts) : kvs.length = ts.length := by
  induction ts generalizing kvs with
  | nil => cases h; rfl
  | cons t ts ih => cases h with | cons a b c => rw [List.length_cons, List.length_cons, ih c]
theorem isEmpty_len {α β : Type} {xs : List α} {ys : List β} (h : xs.length = ys.length) : xs.isEmpty = ys.isEmpty := by
  cases xs <;> cases ys <;> first | rfl | (simp at h)
theorem Cur.truth (sm : Same F H) {v : V} {t : T} {k : Bool} (h : Cur W H F v t) (e : t.truth = some k) : TruV W.K v H k := by
  cases t with
  | non => rw [h.non_inv]; cases e; rfl
  | bl b => rw [h.bl_inv]; cases e; rfl
  | int i => rw [h.int_inv]; cases e; rfl
  | str s => cases e
  | tup ts =>
    obtain ⟨a, vs, rfl, h1, h2⟩ := h.tup_inv sm
    simp only [T.truth] at e
    split at e
    · cases e
      exact .inr (.inl ⟨vs, .of h1, by rw [isEmpty_len h2.length]⟩)
    · cases e
  | lst ts =>
    obtain ⟨a, vs, rfl, h1, h2⟩ := h.lst_inv sm
    simp only [T.truth] at e
    split at e
    · cases e
      exact .inl ⟨vs, .of h1, by rw [isEmpty_len h2.length]⟩
    · cases e
  | frl ts => cases e
  | dct tk ts =>
    cases tk with
    | true => cases e
    | false =>
      obtain ⟨a, vs, rfl, h1, h2⟩ := h.dK_inv sm
      cases e
      exact .inr (.inr ⟨vs, h1, by rw [isEmpty_len h2.length]⟩)
  | ins c fs => cases e
end
/-- looks at several values -/
inductive Curs (W : Wd) (H F : Hp) : List V → List T → Prop
  | nil : Curs W H F [] []
  | cons {v : V} {vs : List V} {t : T} {ts : List T} : Cur W H F v t → Curs W H F vs ts → Curs W H F (v :: vs) (t :: ts)
theorem Curs.one {W : Wd} {H F : Hp} {vs : List V} {t : T} (h : Curs W H F vs [t]) : ∃ v, vs = [v] ∧ Cur W H F v t := by
  cases h with | cons a b => cases b; exact ⟨_, rfl, a⟩
theorem Curs.two {W : Wd} {H F : Hp} {vs : List V} {t u : T} (h : Curs W H F vs [t, u]) : ∃ v w, vs = [v, w] ∧ Cur W H F v t ∧ Cur W H F w u := by
  cases h with | cons a b => cases b with | cons b c => cases c; exact ⟨_, _, rfl, a, b⟩
theorem maxOf_spec : ∀ {ns : List Int} {m : Int}, maxOf ns = some m → m ∈ ns ∧ ∀ y ∈ ns, y ≤ m
  | [], _, h => by cases h
  | [i], m, h => by simp [maxOf] at h; subst h; simp
  | i :: j :: r, m, h => by
    simp only [maxOf] at h
    cases e : maxOf (j :: r) with
    | none => rw [e] at h; cases h
    | some k =>
      rw [e] at h
      simp only [Option.some.injEq] at h
      obtain ⟨h1, h2⟩ := maxOf_spec e
      subst h
      split
      · exact ⟨List.mem_cons_of_mem _ h1, fun y hy => by rcases List.mem_cons.mp hy with rfl | hy; omega; exact h2 y hy⟩
      · exact ⟨List.mem_cons_self, fun y hy => by rcases List.mem_cons.mp hy with rfl | hy; omega; have := h2 y hy; omega⟩
theorem minOf_spec : ∀ {ns : List Int} {m : Int}, minOf ns = some m → m ∈ ns ∧ ∀ y ∈ ns, m ≤ y
  | [], _, h => by cases h
  | [i], m, h => by simp [minOf] at h; subst h; simp
  | i :: j :: r, m, h => by
    simp only [minOf] at h
    cases e : minOf (j :: r) with
    | none => rw [e] at h; cases h
    | some k =>
      rw [e] at h
      simp only [Option.some.injEq] at h
      obtain ⟨h1, h2⟩ := minOf_spec e
      subst h
      split
      · exact ⟨List.mem_cons_of_mem _ h1, fun y hy => by rcases List.mem_cons.mp hy with rfl | hy; omega; exact h2 y hy⟩
      · exact ⟨List.mem_cons_self, fun y hy => by rcases List.mem_cons.mp hy with rfl | hy; omega; have := h2 y hy; omega⟩
theorem sortInts_of {ns ns' : List Int} (h1 : ns'.Perm ns) (h2 : ns'.Pairwise (· ≤ ·)) : ns' = sortInts ns := by
  have k1 : (sortInts ns).Perm ns := List.mergeSort_perm _ _
  have k2 : (sortInts ns).Pairwise (· ≤ ·) := by
    have := List.pairwise_mergeSort (le := fun a b : Int => decide (a ≤ b)) (fun a b c h1 h2 => by simp at *; omega) (fun a b => by simp; omega) ns
    simpa [sortInts] using this
  exact (h1.trans k1.symm).eq_of_pairwise (fun a b _ _ x y => Int.le_antisymm x y) h2 k2
/-! ### sorted of a tuple -/
section
variable {prog : Program} {w : World} {A : Around} {E : Value → Shared → Prop} {s : Shared}
theorem collect_tup {l : Addr} {vs : List Value} {Q : List Value → Shared → Prop} (ht : IsTup s.heap l vs.toArray) (hz : vs.length ≤ sizeLine)
    (h : Q vs { s with heap := (s.heap.push (seqObj "list" #[] 0)).update s.heap.objs.size (Obj.mapSeq (· ++ vs.toArray)) }) : wpAny (model prog w) A (collect (.ref l)) Q E s := by
  obtain ⟨o, ho, hc, n, hd⟩ := id ht
  unfold collect
  refine wpAny_bind (wpAny_runValue (codeAny_builtin entry_proto_collect' ?_))
  show wpAny _ _ (newList [] >>= fun x => again (.builtin "list.__iadd__" ⟨[x, .ref l], []⟩)) _ _ s
  refine wpAny_bind (wpAny_newList (wpAny_pure ⟨Code.quiet_builtin _ (by decide +kernel), codeAny_builtin entry_list_iadd' ?_⟩))
  have ho' : (s.heap.push (seqObj "list" #[] 0)).get? l = some o := Heap.get?_push_of_some _ ho
  have hn : (s.heap.push (seqObj "list" #[] 0)).get? s.heap.objs.size = some (seqObj "list" #[] 0) := Heap.get?_push_size _ rfl
  show wpAny _ _ (Builtin.List.listExtendWith (.ref s.heap.objs.size) (.ref l) (.ref s.heap.objs.size)) _ _ { s with heap := (s.heap.push (seqObj "list" #[] 0)) }
  unfold Builtin.List.listExtendWith
  refine wpAny_bind (wpAny_typeOf (T := "tuple") ⟨o, ho', hc⟩ ?_)
  rw [if_pos (by simp)]
  refine wpAny_bind (listItems_at ho' hd (?_))
  refine wpAny_bind (listItems_at hn rfl (?_))
  rw [if_neg (by simp)]
  have big : (#[] ++ vs.toArray).size ≤ sizeLine + 1 := by
    simp only [Array.size_append, List.size_toArray, List.length_nil]
    omega
  refine wpAny_bind (listUpdate_at hn rfl (wpAny_pure ?_) (Nat.zero_le _) big)
  have hx := get?_update_seq hn (· ++ vs.toArray)
  refine wpAny_bind (wpAny_load hx ?_)
  have e : ((#[] : Array Value) ++ vs.toArray).toList = vs := by simp
  show wpAny _ _ (pure ((#[] : Array Value) ++ vs.toArray).toList) Q E { s with heap := (s.heap.push (seqObj "list" #[] 0)).update s.heap.objs.size (Obj.mapSeq (· ++ vs.toArray)) }
  rw [e]
  exact wpAny_pure h
open SrtO in
theorem sorted_tupOrd {l : Addr} {vs : List Value} {lt : Value → Value → Bool} {Q : Value → Shared → Prop} (O : Swo lt) (ht : IsTup s.heap l vs.toArray) (hz : vs.length ≤ sizeLine)
    (hS : 2 ≤ vs.length → ∀ (g : Heap) (a : Addr), g.get? a = some (seqObj "list" vs.toArray 0) → (∀ b o, s.heap.get? b = some o → b ≠ a ∧ g.get? b = some o) → SortableO prog w A.in1.in1 { s with heap := g } a vs lt)
    (h : ∀ out : List Value, Srtd lt out → Stb lt out vs → Q (.ref (s.heap.objs.size + 1)) { s with heap := sortedAll s.heap vs out.toArray }) : wpAny (model prog w) A (call (.builtin "sorted") [.ref l]) Q E s := by
  refine Calls.call_function_entry kind_sorted plain_sorted entry_sorted (args_sorted1 _) (?_)
  unfold Builtin.«sorted»
  refine wpAny_bind (m := checkCount "sorted" 1 1 _) (wpAny_pure (?_))
  refine wpAny_bind (collect_tup ht hz (wpAny_bind (wpAny_newList (?_) hz)))
  generalize hg1 : (s.heap.push (seqObj "list" #[] 0)).update s.heap.objs.size (Obj.mapSeq (· ++ vs.toArray)) = g1
  have sz : g1.objs.size = s.heap.objs.size + 1 := by rw [← hg1, Heap.size_update, size_push']
  have old : ∀ b o, s.heap.get? b = some o → g1.get? b = some o := fun b o q => by
    rw [← hg1, Heap.get?_update_ne _ _ _ _ (Nat.ne_of_lt (Heap.lt_size q))]
    exact Heap.get?_push_of_some _ q
  have new : (g1.push (seqObj "list" vs.toArray 0)).get? (s.heap.objs.size + 1) = some (seqObj "list" vs.toArray 0) := by
    rw [← sz]; exact Heap.get?_push_size _ rfl
  have kp : ∀ b o, s.heap.get? b = some o → b ≠ s.heap.objs.size + 1 ∧ (g1.push (seqObj "list" vs.toArray 0)).get? b = some o := fun b o q =>
    ⟨Nat.ne_of_lt (Nat.lt_succ_of_lt (Heap.lt_size q)), Heap.get?_push_of_some _ (old b o q)⟩
  show wpAny _ _ _ _ _ { s with heap := g1.push (seqObj "list" vs.toArray 0) }
  rw [sz]
  have call := fun (E' : Value → Shared → Prop) (R : PySem.Fin → Shared → Prop) (k : ∀ s', Q (.ref (s.heap.objs.size + 1)) s' → R (.done (.ret .none)) s') => list_sort_ord (prog := prog) (w := w) (A := A.in1.in1) (E := E') (s := { s with heap := g1.push (seqObj "list" vs.toArray 0) }) (R := R) O new hz
    (fun h2 => hS h2 _ _ new kp) fun out hs hb => k _ (by
      have q := h out hs hb
      unfold sortedAll at q
      rw [hg1] at q
      exact q)
  exact wpAny_bind (wpAny_holding (wpAny_call_entry slot_list_sort ⟨_, new, rfl⟩ entry_list_sort (call _ _ fun s' q => ⟨_, rfl, wpAny_pure ⟨_, rfl, q⟩⟩) (args_list_sort _)))
end
end PV

/-! PVS: sorting rows of data (tuples of ints and tuples, empty ones too) -/
namespace PV
open PySem PySem.Spec PyProof.Rows L2 PySem.SeqAt
section
variable {prog : Program} {w : World} {A : Around} {E : Value → Shared → Prop} {s : Shared}
theorem call_tuple_lt {Q : Value → Shared → Prop} {l b : Addr} {items items2 : Array Value} {e r : Nat → Bool} (hl : s.heap.IsTuple l items) (hb : s.heap.IsTuple b items2)
    (he : ∀ j (h1 : j < items.size) (h2 : j < items2.size), EqAt A.in1 s items[j] items2[j] (e j)) (hr : ∀ j (h1 : j < items.size) (h2 : j < items2.size), e j = false → RcLt A.in1 s items[j] items2[j] (r j))
    (h : Q (.bool (firstLt e r (decide (items.size < items2.size)) (List.range (min items.size items2.size)))) s) : wpAny (model prog w) A (call (.builtin "tuple.__lt__") [.ref l, .ref b]) Q E s := by
  obtain ⟨⟨cls, dd, data, sl⟩, ho, hc, n, hd⟩ := id hl
  obtain ⟨⟨cls2, dd2, data2, sl2⟩, ho2, hc2, n2, hd2⟩ := id hb
  simp only at hc hd hc2 hd2
  subst hc hd hc2 hd2
  exact call_meets F.slot_tuple_lt ⟨_, ho, rfl⟩ F.entry_tuple_lt (F.args_tuple_lt_2 _ _) (tuple_ltAt l b items items2 n n2 dd dd2 sl sl2 e r) ⟨ho, ho2, he, hr, h⟩
open PySem.W in
theorem oneLt_tup {xs ys : List PyData} {a b : Value} {as bs : List Addr} {Q : Bool → Shared → Prop} (ra : Reads s.heap a (.tuple xs) as) (rb : Reads s.heap b (.tuple ys) bs) (h : PySem.W.alike (.tuple xs) (.tuple ys) = true)
    (hu : A.units + min (PyData.depth (.tuple xs)) (PyData.depth (.tuple ys)) < cLine) (hq : Q (dataLt (.tuple xs) (.tuple ys)) s) : wpAny (model prog w) A (oneLt' true a b) Q E s := by
  have hal : alikeAll xs ys = true := by simpa [PySem.W.alike] using h
  cases ra with
  | @tuple l o vs n _ as₁ h1 h2 h3 h4 =>
    cases rb with
    | @tuple l' o' vs' n' _ bs₁ k1 k2 k3 k4 =>
      have n1 : vs.size = xs.length := by simpa using ReadsAll.length _ _ _ h4
      have n2 : vs'.size = ys.length := by simpa using ReadsAll.length _ _ _ k4
      rw [dataLt_tuple, ← firstLt_toks xs ys hal, ← n1, ← n2] at hq
      rw [oneLt'_eq]
      simp only [if_true]
      refine wpAny_bind (wpAny_cRoomFor (room_here hu) ?_)
      refine wpAny_bind (wpAny_callSpecialIfBound?_slot (T := "tuple") ⟨_, h1, h2⟩ F.slot_tuple_lt (call_tuple_lt (e := pairEq xs ys) (r := fun j => dataLt (xs.getD j .none) (ys.getD j .none)) ⟨_, h1, h2, _, h3⟩ ⟨_, k1, k2, _, k3⟩ (fun j j1 j2 => ?_) (fun j j1 j2 hj => ?_) ?_))
      · have := eqAt_alikeAll xs ys A.in1 s vs.toList vs'.toList _ _ h4 k4 hal (room_in hu) j (by simpa using j1) (by simpa using j2)
        simpa using this
      · have := rcLt_alikeAll xs ys A.in1 s vs.toList vs'.toList _ _ h4 k4 hal (room_in hu) j (by simpa using j1) (by simpa using j2) hj
        simpa using this
      · exact wpAny_truthy_bool hq
theorem first_tup {M : Model} {v : Value} {xs : List PyData} {as : List Addr} {Q : Option Value → Shared → Prop} (r : Reads s.heap v (.tuple xs) as) (h : ∀ o, (o.isSome = !xs.isEmpty) → Q o s) : wpAny M A (firstOfTuple' v) Q E s := by
  cases r with
  | @tuple a o vs n _ _ ho hc hd hr =>
    have hl := ReadsAll.length _ _ _ hr
    rw [PySem.W.kas_first_eq]
    refine wpAny_bind (PySem.W.Looks.here (show PySem.W.Looks M s.heap (typeOf (.ref a)) o.cls from (PySem.W.Looks.ld ho).andThen .now) ?_)
    rw [hc, if_neg (by first | decide | simp)]
    refine wpAny_bind (listItems_at ho hd (wpAny_pure (h _ ?_)))
    cases xs with
    | nil =>
      have : vs.size = 0 := by simpa using hl
      simp [this]
    | cons x r =>
      have : 0 < vs.size := by have := hl; simp at this; omega
      simp [this]
open PySem.W in
theorem firsts_tup {M : Model} : ∀ {vs : List Value} {ds : List PyData} {Q : List (Option Value) → Shared → Prop}, EachIs (fun v d => ∃ as, Reads s.heap v d as) vs ds → (∀ d ∈ ds, ∃ xs, d = .tuple xs) → (∀ os, os.map (·.isSome) = ds.map (fun d => match d with | .tuple xs => !xs.isEmpty | _ => false) → Q os s) → wpAny M A (vs.mapM firstOfTuple') Q E s
  | _, _, Q, .nil, _, h => by rw [List.mapM_nil]; exact wpAny_pure (h [] rfl)
  | _, _, Q, .cons (b := d) ⟨as, r⟩ t, ht, h => by
    obtain ⟨xs, rfl⟩ := ht d List.mem_cons_self
    rw [List.mapM_cons]
    refine wpAny_bind (first_tup r fun o ho => ?_)
    refine wpAny_bind (firsts_tup t (fun d hd => ht d (List.mem_cons_of_mem _ hd)) fun os hos => wpAny_pure (h _ ?_))
    rw [List.map_cons, List.map_cons, ho, hos]
open PySem.W in
theorem SortsAt.tups {vs : List Value} {ds : List PyData} (e : EachIs (fun v d => ∃ as, Reads s.heap v d as) vs ds) (hal : AllAlike ds) (ht : ∀ d ∈ ds, ∃ xs, d = .tuple xs) (hu : ∀ d, d ∈ ds → A.units + d.depth < cLine) : SortsAt prog w A s (dataKind s.heap ds) vs := by
  by_cases hne : ∀ d, d ∈ ds → ∃ x r, d = .tuple (x :: r)
  · exact SortsAt.data e hal (.inl hne) hu
  · have room : ∀ {d d' : PyData}, d ∈ ds → A.units + min d.depth d'.depth < cLine := fun {d d'} hd => Nat.lt_of_le_of_lt (Nat.add_le_add_left (Nat.min_le_left _ _) _) (hu d hd)
    refine ⟨fun v hv => ?_, ?_⟩
    · obtain ⟨d, hd, as, r⟩ := e.left v hv
      exact ⟨_, dataKind_some hal hd r⟩
    · have key : ∀ f, H.LtAt prog w A s (dataKind s.heap ds) (if f = true then oneType' else general') := by
        intro f E x y a b Q ha hb hq
        obtain ⟨d, as, hd, ra, rfl⟩ := dataKind_inv ha
        obtain ⟨d', as', hd', rb, rfl⟩ := dataKind_inv hb
        obtain ⟨xs, rfl⟩ := ht d hd
        obtain ⟨ys, rfl⟩ := ht d' hd'
        cases f with
        | true =>
          show wpAny _ _ (keyLt' oneType' x y) Q E s
          rw [keyLt'_oneType]
          exact oneLt_tup ra rb (hal _ hd _ hd') (room hd) hq
        | false =>
          show wpAny _ _ (keyLt' general' x y) Q E s
          exact oneLt_alike (f := false) (fun z => by cases z) ra rb (hal _ hd _ hd') (fun z => by cases z) (room hd) hq
      have nall : ∀ os : List (Option Value), os.map (·.isSome) = ds.map (fun d => match d with | .tuple xs => !xs.isEmpty | _ => false) → (os.toArray.all fun x => x.isSome) = false := by
        intro os hos
        rw [Bool.eq_false_iff]
        intro h
        apply hne
        intro d hd
        obtain ⟨xs, rfl⟩ := ht d hd
        have : (!xs.isEmpty) ∈ os.map (·.isSome) := by
          rw [hos]
          exact List.mem_map.mpr ⟨_, hd, rfl⟩
        obtain ⟨o, ho, eo⟩ := List.mem_map.mp this
        have := (by simpa using h : ∀ x ∈ os, x.isSome = true) o ho
        rw [this] at eo
        cases xs with
        | nil => simp at eo
        | cons x r => exact ⟨x, r, rfl⟩
      have hlen : vs.length = ds.length := e.length
      cases ds with
      | nil => exact absurd (fun d hd => by cases hd) hne
      | cons d₀ ds₀ =>
        obtain ⟨xs₀, rfl⟩ := ht d₀ List.mem_cons_self
        have hf : ∀ os : List (Option Value), os.map (·.isSome) = (PyData.tuple xs₀ :: ds₀).map (fun d => match d with | .tuple xs => !xs.isEmpty | _ => false) → (os.toArray[0]?.bind id).isSome = !xs₀.isEmpty := by
          intro os hos
          cases os with
          | nil => simp at hos
          | cons o os => simp at hos; simp [hos.1]
        refine ⟨_, key xs₀.isEmpty, fun h2 E Q hq => ?_⟩
        rw [kat_kind_eq, List.mapM_toArray, map_eq_pure_bind]
        refine wpAny_bind (wpAny_bind (firsts_tup e ht fun os hos => wpAny_pure ?_))
        rw [if_neg (by rw [nall os hos]; simp)]
        have hfo := hf os hos
        cases hx : xs₀.isEmpty with
        | false =>
          rw [hx] at hfo hq
          rw [if_pos (show (os.toArray[0]?.bind id).isSome = true from hfo)]
          exact wpAny_pure hq
        | true =>
          rw [hx] at hfo hq
          rw [if_neg (by rw [hfo]; simp)]
          rw [oneTypeOnly'_eq, List.mapM_toArray, map_eq_pure_bind]
          refine wpAny_bind (wpAny_bind (wpAny_bind (kas_mapM (r := Value.type "tuple") _ (fun v hv Q' hq => ?_) (wpAny_pure ?_))))
          · obtain ⟨d, hd, as, r⟩ := e.left v hv
            obtain ⟨xs, rfl⟩ := ht d hd
            exact (looks_reads r).here hq
          · have hall : ((List.map (fun _ => Value.type "tuple") vs).toArray.all fun x => x == Value.type "tuple") = true := by
              simp only [List.all_toArray, List.all_map, List.all_eq_true]
              intro _ _
              first | rfl | decide | simp
            obtain ⟨v₀, vs₀, rfl⟩ : ∃ v₀ vs₀, vs = v₀ :: vs₀ := by
              match vs, hlen with
              | [], h => simp at h
              | v₀ :: vs₀, _ => exact ⟨v₀, vs₀, rfl⟩
            have h0 : (List.map (fun _ => Value.type "tuple") (v₀ :: vs₀)).toArray[0]? = some (Value.type "tuple") := by simp
            rw [h0]
            simp only [hall, if_true]
            exact wpAny_pure (wpAny_pure hq)
open PySem.W in
theorem sorted_dataT {β : Type} {vs : List Value} {bs : List β} {enc : β → PyData} {R : Value → β → Prop} {l : Addr} {Q : Value → Shared → Prop} (hl : s.heap.IsList l vs.toArray) (e : EachIs R vs bs) (er : EachIs (fun v b => ∃ as, Reads s.heap v (enc b) as) vs bs) (hal : AllAlike (bs.map enc)) (hk : ∀ b ∈ bs, ∃ xs, enc b = .tuple xs) (hL : bs.length ≤ sizeLine)
    (hu : ∀ b, b ∈ bs → A.units + 2 + (enc b).depth < cLine) (h : ∀ out, out.length = bs.length → EachIs R out (bs.mergeSort (dataLe false enc)) → Q (.ref (s.heap.objs.size + 1)) { s with heap := sortedAll s.heap vs (List.toArray out) }) :
    wpAny (model prog w) A (call (.builtin "sorted") [.ref l]) Q E s := by
  have er' : EachIs (fun v b => ∃ as, Reads (sortingHeap (copyHeap s.heap vs) (s.heap.objs.size + 1) vs) v (enc b) as) vs bs := er.mono fun _ _ ⟨as, r⟩ => ⟨as, PyProof.Rows.Reads.keeps (fun _ _ => sorting_copy_old) r⟩
  exact sorted_vals hl (SortsAt.tups (s := { s with heap := sortingHeap (copyHeap s.heap vs) (s.heap.objs.size + 1) vs }) (each_map (R := fun v d => ∃ as, Reads (sortingHeap (copyHeap s.heap vs) (s.heap.objs.size + 1) vs) v d as) enc er') hal (fun d hd => by
    obtain ⟨b, hb, rfl⟩ := List.mem_map.mp hd
    exact hk b hb) (bound_map hu)) (by rw [e.length]; exact hL)
    (h _ (by rw [sortVals_length false rfl]; exact e.length) (sortVals_data false e er' hal))
end

/-! ### rows of T -/
mutual
theorem like_data : ∀ {a b : T}, T.like a b = true → PySem.W.alike (toD a) (toD b) = true
  | .int i, b, h => by cases b <;> simp [T.like] at h; simp [toD, PySem.W.alike]
  | .tup xs, b, h => by
    cases b <;> simp [T.like] at h
    simp only [toD, PySem.W.alike]
    exact likes_data h
  | .non, _, h => by simp [T.like] at h
  | .bl _, _, h => by simp [T.like] at h
  | .str _, _, h => by simp [T.like] at h
  | .lst _, _, h => by simp [T.like] at h
  | .frl _, _, h => by simp [T.like] at h
  | .dct _ _, _, h => by simp [T.like] at h
  | .ins _ _, _, h => by simp [T.like] at h
theorem likes_data : ∀ {a b : List T}, T.likes a b = true → PySem.W.alikeAll (toDs a) (toDs b) = true
  | [], _, _ => by simp [toDs, PySem.W.alikeAll]
  | x :: xs, [], _ => by simp [toDs, PySem.W.alikeAll]
  | x :: xs, y :: ys, h => by
    simp only [T.likes, Bool.and_eq_true] at h
    simp only [toDs, PySem.W.alikeAll, like_data h.1, likes_data h.2, Bool.and_self]
end
mutual
theorem lt_data : ∀ {n m : Nat} {a b : T}, T.like a b = true → T.plain n a = true → T.plain m b = true → PySem.W.dataLt (toD a) (toD b) = T.lt a b
  | n, m, .int i, b, h, _, _ => by
    cases b <;> simp [T.like] at h
    simp only [toD, PySem.W.dataLt_int, T.lt]
  | n, m, .tup xs, b, h, p, q => by
    cases b <;> simp [T.like] at h
    rename_i ys
    cases n with
    | zero => simp [T.plain] at p
    | succ n =>
      cases m with
      | zero => simp [T.plain] at q
      | succ m =>
        simp only [T.plain] at p q
        simp only [toD, PySem.W.dataLt_tuple, T.lt]
        exact lts_data h p q
  | _, _, .non, _, h, _, _ => by simp [T.like] at h
  | _, _, .bl _, _, h, _, _ => by simp [T.like] at h
  | _, _, .str _, _, h, _, _ => by simp [T.like] at h
  | _, _, .lst _, _, h, _, _ => by simp [T.like] at h
  | _, _, .frl _, _, h, _, _ => by simp [T.like] at h
  | _, _, .dct _ _, _, h, _, _ => by simp [T.like] at h
  | _, _, .ins _ _, _, h, _, _ => by simp [T.like] at h
theorem lts_data : ∀ {n m : Nat} {a b : List T}, T.likes a b = true → T.plains n a = true → T.plains m b = true → PyProof.Rows.lexLt PyProof.Rows.itemOrd (PySem.W.keyToksAll (toDs a)) (PySem.W.keyToksAll (toDs b)) = T.lts a b
  | _, _, [], [], _, _, _ => by
    simp only [toDs, T.lts]
    exact lex_irrefl _
  | _, _, [], y :: ys, _, _, _ => by
    simp only [toDs, T.lts, PySem.W.keyToksAll]
    rw [lex_cons]
    rfl
  | _, _, x :: xs, [], _, _, _ => by
    simp only [toDs, T.lts, PySem.W.keyToksAll]
    rw [lex_cons]
    rfl
  | n, m, x :: xs, y :: ys, h, p, q => by
    simp only [T.likes, Bool.and_eq_true] at h
    simp only [T.plains, Bool.and_eq_true] at p q
    simp only [toDs, T.lts]
    rw [PySem.W.dataLt_cons (like_data h.1), eqv_eq p.1 q.1, lts_data h.2 p.2 q.2, lt_data h.1 p.1 q.1]
end
theorem plains_mem : ∀ {n : Nat} {xs : List T} {x : T}, T.plains n xs = true → x ∈ xs → T.plain n x = true
  | _, [], _, _, h => by cases h
  | n, y :: ys, x, p, h => by
    simp only [T.plains, Bool.and_eq_true] at p
    rcases List.mem_cons.mp h with rfl | h
    · exact p.1
    · exact plains_mem p.2 h
/-- values, what stands for them, what they are -/
inductive Tri (W : Wd) (F : Hp) : List Value → List (V × T) → Prop
  | nil : Tri W F [] []
  | cons {u : Value} {v : V} {t : T} {us : List Value} {bs : List (V × T)} : RelV v u → Rep W F v t → Tri W F us bs → Tri W F (u :: us) ((v, t) :: bs)
theorem tri_of {W : Wd} {F : Hp} : ∀ {vs : List V} {us : List Value} {ts : List T}, Vals vs us → Reps W F vs ts → PySem.W.EachIs (fun u (p : V × T) => RelV p.1 u ∧ Rep W F p.1 p.2) us (vs.zip ts)
  | _, _, _, .nil, .nil => .nil
  | _, _, _, .cons r rs, .cons h hs => .cons ⟨r, h⟩ (tri_of rs hs)
theorem tri_back {W : Wd} {F : Hp} : ∀ {us : List Value} {bs : List (V × T)}, PySem.W.EachIs (fun u (p : V × T) => RelV p.1 u ∧ Rep W F p.1 p.2) us bs → Vals (bs.map (·.1)) us ∧ Reps W F (bs.map (·.1)) (bs.map (·.2))
  | _, _, .nil => ⟨.nil, .nil⟩
  | _, _, .cons h t => ⟨.cons h.1 (tri_back t).1, .cons h.2 (tri_back t).2⟩
theorem Reps.len {W : Wd} {F : Hp} : ∀ {vs : List V} {ts : List T}, Reps W F vs ts → vs.length = ts.length
  | _, _, .nil => rfl
  | _, _, .cons _ h => by rw [List.length_cons, List.length_cons, h.len]
section
variable {X : Cx} {W : Wd}
theorem sorted_rows (hK : X.K = W.K) (room : X.A.units + 64 < cLine) {pins : List (Addr × Obj)} {s : Shared} {σ : Sl} {H F : Hp} {Q : VK} {a : Addr} {ws : List V} {xs ys : List T} (I : Inv X pins σ H s) (sm : Same F H) (h : H a = some (.lst ws)) (r : Reps W F ws xs) (hs : sortD xs = some ys)
    (q : ∀ p ws', H p = none → Reps W F ws' ys → Q (.ref p) (upd H p (.lst ws'))) :
    wpAny (model X.prog X.w) X.A (call (.builtin "sorted") [.ref a]) (EP X pins σ Q) X.xe s := by
  unfold sortD at hs
  split at hs
  · rename_i c
    cases hs
    simp only [Bool.and_eq_true, List.all_eq_true, decide_eq_true_eq] at c
    obtain ⟨⟨⟨c1, c2⟩, c3⟩, c4⟩ := c
    obtain ⟨its, rv, hl, hz⟩ := I.list (SqL.of h)
    have hln := r.len
    have e := tri_of rv r
    have mem : ∀ p ∈ ws.zip xs, p.2 ∈ xs := fun p hp => (List.of_mem_zip (a := p.1) (b := p.2) hp).2
    have dp : ∀ p ∈ ws.zip xs, T.plain 30 p.2 = true := fun p hp => plains_mem c3 (mem p hp)
    have er : PySem.W.EachIs (fun v (p : V × T) => ∃ as, Reads s.heap v (toD p.2) as) its (ws.zip xs) := by
      refine (PySem.W.each_mem e).mono fun u p hp => ?_
      have hd := Rep.dp sm (dp p hp.2) hp.1.2
      rw [← hK] at hd
      exact Dp.reads I _ _ _ hd hp.1.1
    have hzl : (ws.zip xs).length = ws.length := by rw [List.length_zip, hln]; exact Nat.min_self _
    refine sorted_dataT (enc := fun p : V × T => toD p.2) hl.isList e er ?_ ?_ (by rw [hzl]; exact hz) ?_ fun out ho ho2 => ?_
    · intro d hd d' hd'
      obtain ⟨p, hp, rfl⟩ := List.mem_map.mp hd
      obtain ⟨p', hp', rfl⟩ := List.mem_map.mp hd'
      exact like_data (c2 _ (mem p hp) _ (mem p' hp'))
    · intro p hp
      have := c1 _ (mem p hp)
      cases hx : p.2 <;> rw [hx] at this <;> simp [T.isTup] at this
      rename_i zs
      exact ⟨toDs zs, by simp only [toD]⟩
    · intro p hp
      have := (plain_lay (dp p hp)).2
      omega
    · obtain ⟨k1, k2⟩ := tri_back ho2
      have es : ((ws.zip xs).mergeSort (PySem.W.dataLe false fun p : V × T => toD p.2)).map (·.2) = xs.mergeSort leT := by
        have := List.map_mergeSort (r := PySem.W.dataLe false fun p : V × T => toD p.2) (s := leT) (f := fun p : V × T => p.2) (l := ws.zip xs) fun p hp p' hp' => by
          rw [PySem.W.dataLe_eq]
          show (!PySem.W.dataLt (toD p'.2) (toD p.2)) = !T.lt p'.2 p.2
          rw [lt_data (c2 _ (mem p' hp') _ (mem p hp)) (dp p' hp') (dp p hp)]
        rw [this]
        congr 1
        rw [List.map_snd_zip (by omega)]
      rw [es] at k2
      obtain ⟨ep, he'⟩ := PyProof.Rows.sortedAll_at s.heap its out.toArray
      have hlen : (((ws.zip xs).mergeSort (PySem.W.dataLe false fun p : V × T => toD p.2)).map (·.1)).length ≤ sizeLine := by
        rw [List.length_map, List.length_mergeSort, hzl]; exact hz
      exact ⟨.ref _, upd H (s.heap.objs.size + 1) (.lst _), I.laid (t' := s.toks) (fun _ _ => PyProof.Rows.sortedAll_old) (Nat.le_succ _) ⟨hlen, out, ep, k1, he'⟩, rfl, q _ _ (I.hok.fresh (Nat.le_succ _)) k2⟩
  · cases hs
end
end PV

/-! PV8: built-in functions; places; dicts -/
namespace PV
open PySem PySem.Spec PyProof.Rows L2
def Blt.isTy : Blt → Bool
  | .int => true | .tuple => true | .list => true | .dict => true
  | _ => false
def Blt.nm : Blt → String
  | .len => "len" | .sum => "sum" | .all => "all" | .any => "any" | .min => "min" | .max => "max" | .abs => "abs"
  | .int => "int" | .tuple => "tuple" | .list => "list" | .sorted => "sorted" | .gcd => "math.gcd" | .dict => "dict"
def Blt.val (b : Blt) : Value := if b.isTy then .type b.nm else .builtin b.nm
def rBlt (W : Wd) (b : Blt) : List V → Hp → VK → Prop := fun vs H Q => ∃ F ts r, Same F H ∧ Curs W H F vs ts ∧ blt2 b ts = some r ∧ End W F H r Q
theorem map_int_inj {ns ms : List Int} (h : ns.map V.int = ms.map V.int) : ns = ms := by
  induction ns generalizing ms with
  | nil => cases ms with | nil => rfl | cons _ _ => simp at h
  | cons a r ih => cases ms with
    | nil => simp at h
    | cons b t => simp at h; rw [h.1, ih (by simpa using h.2)]
section
variable {X : Cx} {W : Wd}
theorem sorted_tupI (hK : X.K = W.K) {pins : List (Addr × Obj)} {s : Shared} {σ : Sl} {H : Hp} {Q : VK} {a : Addr} {ns : List Int} (I : Inv X pins σ H s) (h : H a = some (.tup (ns.map V.int))) (q : ∀ p, H p = none → Q (.ref p) (upd H p (.lst ((sortInts ns).map V.int)))) :
    wpAny (model X.prog X.w) X.A (call (.builtin "sorted") [.ref a]) (EP X pins σ Q) X.xe s := by
  obtain ⟨its, rv, hl, hz⟩ := I.tuple (SqT.of h)
  have hi := rv.ints
  refine sorted_tupOrd SrtO.swo_int hl (by rw [← rv.length]; exact hz) (fun h2 _ _ _ _ => SrtO.ints_sortable hi h2) fun out h1 h2 => ?_
  obtain ⟨k1, k2, k3⟩ := SrtO.ints_out hi h1 h2
  obtain ⟨ep, he'⟩ := PyProof.Rows.sortedAll_at s.heap its out.toArray
  have e := sortInts_of k2 k3
  have hlen : ((sortInts ns).map V.int).length ≤ sizeLine := by
    rw [← e, List.length_map, k2.length_eq]
    rw [List.length_map] at hz
    exact hz
  refine ⟨.ref _, upd H (s.heap.objs.size + 1) (.lst ((sortInts ns).map V.int)), I.laid (t' := s.toks) (fun _ _ => PyProof.Rows.sortedAll_old) (Nat.le_succ _) ⟨hlen, out, ep, by rw [← e]; exact vals_of_ints k1, he'⟩, rfl, q _ (I.hok.fresh (Nat.le_succ _))⟩
theorem blt2_ok (hK : X.K = W.K) (hc : X.calm = true) (hu : X.A.units + 64 < cLine) (b : Blt) : CallR X b.val (rBlt W b) := by
  intro pins s σ H vs us Q I rs ⟨F, ts, r, sm, cs, e, q⟩
  have seq : ∀ {v : V} {xs : List T} (f : List T → T), (f = T.lst ∨ f = T.tup) → Cur W H F v (f xs) → ∃ a ws, v = .ref a ∧ (SqL X.K H a ws ∨ SqT X.K H a ws) ∧ Reps W F ws xs := by
    rintro v xs f (rfl | rfl) h
    · obtain ⟨a, ws, e1, e2, e3⟩ := h.lst_inv sm; exact ⟨a, ws, e1, .inl (.of e2), e3⟩
    · obtain ⟨a, ws, e1, e2, e3⟩ := h.tup_inv sm; exact ⟨a, ws, e1, .inr (.of e2), e3⟩
  cases b with
  | len =>
    match ts, e with
    | [.tup xs], e =>
      cases e
      obtain ⟨v, rfl, h⟩ := cs.one
      obtain ⟨a, ws, rfl, h1, h2⟩ := h.tup_inv sm
      refine call_len pins s σ H _ us Q I rs ⟨_, ws.length, rfl, .inr ⟨ws, .of h1, rfl⟩, ?_⟩
      rw [h2.length]; exact q.flat sm (.int _)
    | [.lst xs], e =>
      cases e
      obtain ⟨v, rfl, h⟩ := cs.one
      obtain ⟨a, ws, rfl, h1, h2⟩ := h.lst_inv sm
      refine call_len pins s σ H _ us Q I rs ⟨_, ws.length, rfl, .inl ⟨ws, .of h1, rfl⟩, ?_⟩
      rw [h2.length]; exact q.flat sm (.int _)
    | [.frl xs], e =>
      cases e
      obtain ⟨v, rfl, h⟩ := cs.one
      obtain ⟨a, ws, rfl, h1, h2⟩ := h.frl_inv sm
      refine call_len pins s σ H _ us Q I rs ⟨_, ws.length, rfl, .inl ⟨ws, by rw [hK]; exact h1, rfl⟩, ?_⟩
      rw [h2.length]; exact q.flat sm (.int _)
    | [.dct false kvs], e =>
      cases e
      obtain ⟨v, rfl, h⟩ := cs.one
      obtain ⟨a, ws, rfl, h1, h2⟩ := h.dK_inv sm
      refine call_lenD pins s σ H _ us Q I rs ⟨a, ws, rfl, h1, ?_⟩
      rw [h2.length]; exact q.flat sm (.int _)
    | [.dct true kvs], e =>
      cases e
      obtain ⟨v, rfl, h⟩ := cs.one
      obtain ⟨a, ws, rfl, h1, h2⟩ := h.dT_inv sm
      refine call_len_dT pins s σ H _ us Q I rs ⟨a, ws, rfl, h1, ?_⟩
      rw [h2.length]; exact q.flat sm (.int _)
    | [], e => simp [blt2] at e
    | [.non], e => simp [blt2] at e
    | [.bl _], e => simp [blt2] at e
    | [.int _], e => simp [blt2] at e
    | [.str _], e => simp [blt2] at e
    | [.ins _ _], e => simp [blt2] at e
    | _ :: _ :: _, e => simp [blt2] at e
  | sum =>
    match ts, e with
    | [.lst xs], e =>
      simp only [blt2] at e
      split at e
      · rename_i ns hn
        cases e
        obtain ⟨v, rfl, h⟩ := cs.one
        obtain ⟨a, ws, rfl, h1, h2⟩ := h.lst_inv sm
        exact cr_sum hc pins s σ H _ us Q I rs ⟨a, ns, rfl, .of (by rw [← h2.ints hn]; exact h1), q.flat sm (.int _)⟩
      · cases e
    | [], e => simp [blt2] at e
    | [.non], e => simp [blt2] at e
    | [.bl _], e => simp [blt2] at e
    | [.int _], e => simp [blt2] at e
    | [.str _], e => simp [blt2] at e
    | [.tup _], e => simp [blt2] at e
    | [.frl _], e => simp [blt2] at e
    | [.dct _ _], e => simp [blt2] at e
    | [.ins _ _], e => simp [blt2] at e
    | _ :: _ :: _, e => simp [blt2] at e
  | all =>
    match ts, e with
    | [.lst xs], e =>
      simp only [blt2] at e
      split at e
      · rename_i ns hn
        cases e
        obtain ⟨v, rfl, h⟩ := cs.one
        obtain ⟨a, ws, rfl, h1, h2⟩ := h.lst_inv sm
        exact cr_all hc pins s σ H _ us Q I rs ⟨a, ns, rfl, .of (by rw [← h2.bools hn]; exact h1), q.flat sm (.bl _)⟩
      · cases e
    | [], e => simp [blt2] at e
    | [.non], e => simp [blt2] at e
    | [.bl _], e => simp [blt2] at e
    | [.int _], e => simp [blt2] at e
    | [.str _], e => simp [blt2] at e
    | [.tup _], e => simp [blt2] at e
    | [.frl _], e => simp [blt2] at e
    | [.dct _ _], e => simp [blt2] at e
    | [.ins _ _], e => simp [blt2] at e
    | _ :: _ :: _, e => simp [blt2] at e
  | any =>
    match ts, e with
    | [.lst xs], e =>
      simp only [blt2] at e
      split at e
      · rename_i ns hn
        cases e
        obtain ⟨v, rfl, h⟩ := cs.one
        obtain ⟨a, ws, rfl, h1, h2⟩ := h.lst_inv sm
        exact cr_any hc pins s σ H _ us Q I rs ⟨a, ns, rfl, .of (by rw [← h2.bools hn]; exact h1), q.flat sm (.bl _)⟩
      · cases e
    | [], e => simp [blt2] at e
    | [.non], e => simp [blt2] at e
    | [.bl _], e => simp [blt2] at e
    | [.int _], e => simp [blt2] at e
    | [.str _], e => simp [blt2] at e
    | [.tup _], e => simp [blt2] at e
    | [.frl _], e => simp [blt2] at e
    | [.dct _ _], e => simp [blt2] at e
    | [.ins _ _], e => simp [blt2] at e
    | _ :: _ :: _, e => simp [blt2] at e
  | max =>
    match ts, e with
    | [.lst xs], e =>
      simp only [blt2] at e
      split at e
      · rename_i ns hn
        cases hm : maxOf ns with
        | none => rw [hm] at e; cases e
        | some m =>
          rw [hm] at e; cases e
          obtain ⟨v, rfl, h⟩ := cs.one
          obtain ⟨a, ws, rfl, h1, h2⟩ := h.lst_inv sm
          obtain ⟨m1, m2⟩ := maxOf_spec hm
          refine cr_max hc pins s σ H _ us Q I rs ⟨a, ns, rfl, .of (by rw [← h2.ints hn]; exact h1), List.length_pos_of_mem m1, fun k k1 k2 => ?_⟩
          have : k = m := Int.le_antisymm (m2 k k1) (k2 m m1)
          subst this
          exact q.flat sm (.int _)
      · cases e
    | [.int i, .int j], e =>
      cases e
      obtain ⟨v, w, rfl, h, h'⟩ := cs.two
      exact call_max2 hc pins s σ H _ us Q I rs ⟨i, j, by rw [h.int_inv, h'.int_inv], q.flat sm (.int _)⟩
    | [], e => simp [blt2] at e
    | [.non], e => simp [blt2] at e
    | [.bl _], e => simp [blt2] at e
    | [.int _], e => simp [blt2] at e
    | [.str _], e => simp [blt2] at e
    | [.tup _], e => simp [blt2] at e
    | [.frl _], e => simp [blt2] at e
    | [.dct _ _], e => simp [blt2] at e
    | [.ins _ _], e => simp [blt2] at e
    | x :: y :: z :: r, e => cases x <;> cases y <;> simp [blt2] at e
    | [x, y], e =>
      cases x <;> cases y <;> first | (simp [blt2] at e; done) | skip
      simp only [blt2, Option.some.injEq] at e
      subst e
      obtain ⟨v, w, rfl, h, h'⟩ := cs.two
      exact call_max2 hc pins s σ H _ us Q I rs ⟨_, _, by rw [h.int_inv, h'.int_inv], q.flat sm (.int _)⟩
  | min =>
    match ts, e with
    | [.lst xs], e =>
      simp only [blt2] at e
      split at e
      · rename_i ns hn
        cases hm : minOf ns with
        | none => rw [hm] at e; cases e
        | some m =>
          rw [hm] at e; cases e
          obtain ⟨v, rfl, h⟩ := cs.one
          obtain ⟨a, ws, rfl, h1, h2⟩ := h.lst_inv sm
          obtain ⟨m1, m2⟩ := minOf_spec hm
          refine cr_min hc pins s σ H _ us Q I rs ⟨a, ns, rfl, .of (by rw [← h2.ints hn]; exact h1), List.length_pos_of_mem m1, fun k k1 k2 => ?_⟩
          have : k = m := Int.le_antisymm (k2 m m1) (m2 k k1)
          subst this
          exact q.flat sm (.int _)
      · cases e
    | [], e => simp [blt2] at e
    | [.non], e => simp [blt2] at e
    | [.bl _], e => simp [blt2] at e
    | [.int _], e => simp [blt2] at e
    | [.str _], e => simp [blt2] at e
    | [.tup _], e => simp [blt2] at e
    | [.frl _], e => simp [blt2] at e
    | [.dct _ _], e => simp [blt2] at e
    | [.ins _ _], e => simp [blt2] at e
    | x :: y :: z :: r, e => cases x <;> cases y <;> simp [blt2] at e
    | [x, y], e =>
      cases x <;> cases y <;> first | (simp [blt2] at e; done) | skip
      simp only [blt2, Option.some.injEq] at e
      subst e
      obtain ⟨v, w, rfl, h, h'⟩ := cs.two
      exact call_min2 hc pins s σ H _ us Q I rs ⟨_, _, by rw [h.int_inv, h'.int_inv], q.flat sm (.int _)⟩
  | abs =>
    match ts, e with
    | [x], e =>
      cases x <;> first | (simp [blt2] at e; done) | skip
      simp only [blt2, Option.some.injEq] at e
      subst e
      obtain ⟨v, rfl, h⟩ := cs.one
      exact call_abs pins s σ H _ us Q I rs ⟨_, by rw [h.int_inv], q.flat sm (.int _)⟩
    | [], e => simp [blt2] at e
    | _ :: _ :: _, e => simp [blt2] at e
  | int =>
    match ts, e with
    | [x], e =>
      cases x <;> first | (simp [blt2] at e; done) | skip
      simp only [blt2, Option.some.injEq] at e
      subst e
      obtain ⟨v, rfl, h⟩ := cs.one
      exact call_int1 pins s σ H _ us Q I rs (.inl ⟨_, by rw [h.int_inv], q.flat sm (.int _)⟩)
    | [], e => simp [blt2] at e
    | _ :: _ :: _, e => simp [blt2] at e
  | tuple =>
    match ts, e with
    | [.lst xs], e =>
      simp only [blt2] at e
      split at e
      · cases e
        obtain ⟨v, rfl, h⟩ := cs.one
        obtain ⟨a, ws, rfl, h1, h2⟩ := h.lst_inv sm
        exact call_tuple_of pins s σ H _ us Q I rs ⟨a, ws, rfl, .inl ⟨.of h1, q.tup sm h2⟩⟩
      · cases e
    | [.tup xs], e =>
      cases e
      obtain ⟨v, rfl, h⟩ := cs.one
      cases h with
      | rep h =>
        obtain ⟨a, ws, rfl, h1, h2⟩ := h.tup_inv
        exact call_tuple_of pins s σ H _ us Q I rs ⟨a, ws, rfl, .inr ⟨.of (sm _ _ h1), q.flat sm h⟩⟩
      | here h1 h2 => cases h2
    | [], e => simp [blt2] at e
    | [.non], e => simp [blt2] at e
    | [.bl _], e => simp [blt2] at e
    | [.int _], e => simp [blt2] at e
    | [.str _], e => simp [blt2] at e
    | [.frl _], e => simp [blt2] at e
    | [.dct _ _], e => simp [blt2] at e
    | [.ins _ _], e => simp [blt2] at e
    | _ :: _ :: _, e => simp [blt2] at e
  | list =>
    match ts, e with
    | [.lst xs], e =>
      simp only [blt2] at e
      split at e
      · cases e
        obtain ⟨v, rfl, h⟩ := cs.one
        obtain ⟨a, ws, rfl, h1, h2⟩ := h.lst_inv sm
        exact call_list_of pins s σ H _ us Q I rs ⟨a, ws, rfl, .inl (.of h1), q.own sm (.lst h2)⟩
      · cases e
    | [.tup xs], e =>
      simp only [blt2] at e
      split at e
      · cases e
        obtain ⟨v, rfl, h⟩ := cs.one
        obtain ⟨a, ws, rfl, h1, h2⟩ := h.tup_inv sm
        exact call_list_of pins s σ H _ us Q I rs ⟨a, ws, rfl, .inr (.of h1), q.own sm (.lst h2)⟩
      · cases e
    | [.frl xs], e =>
      simp only [blt2] at e
      split at e
      · cases e
        obtain ⟨v, rfl, h⟩ := cs.one
        obtain ⟨a, ws, rfl, h1, h2⟩ := h.frl_inv sm
        exact call_list_of pins s σ H _ us Q I rs ⟨a, ws, rfl, .inl (by rw [hK]; exact h1), q.own sm (.lst h2)⟩
      · cases e
    | [], e => simp [blt2] at e
    | [.non], e => simp [blt2] at e
    | [.bl _], e => simp [blt2] at e
    | [.int _], e => simp [blt2] at e
    | [.str _], e => simp [blt2] at e
    | [.dct _ _], e => simp [blt2] at e
    | [.ins _ _], e => simp [blt2] at e
    | _ :: _ :: _, e => simp [blt2] at e
  | sorted =>
    match ts, e with
    | [.lst xs], e =>
      simp only [blt2] at e
      split at e
      · rename_i ns hn
        split at e
        · cases e
          obtain ⟨v, rfl, h⟩ := cs.one
          obtain ⟨a, ws, rfl, h1, h2⟩ := h.lst_inv sm
          refine cr_sortedI pins s σ H _ us Q I rs ⟨a, ns, rfl, .of (by rw [← h2.ints hn]; exact h1), fun ns' p k1 k2 hp => ?_⟩
          rw [sortInts_of k1 k2]
          exact q.own sm (.lst (reps_ints F _)) p hp
        · cases e
      · obtain ⟨ys, hy, rfl⟩ := Option.map_eq_some_iff.mp e
        obtain ⟨v, rfl, h⟩ := cs.one
        obtain ⟨a, ws, rfl, h1, h2⟩ := h.lst_inv sm
        obtain ⟨u, rfl, ru⟩ := vals1 rs
        cases ru
        exact sorted_rows hK hu I sm h1 h2 hy fun p ws' hp hw => q.own sm (.lst hw) p hp
    | [.tup xs], e =>
      simp only [blt2] at e
      split at e
      · rename_i ns hn
        split at e
        · cases e
          obtain ⟨v, rfl, h⟩ := cs.one
          obtain ⟨a, ws, rfl, h1, h2⟩ := h.tup_inv sm
          obtain ⟨u, rfl, ru⟩ := vals1 rs
          cases ru
          exact sorted_tupI hK I (by rw [← h2.ints hn]; exact h1) (q.own sm (.lst (reps_ints F _)))
        · cases e
      · cases e
    | [], e => simp [blt2] at e
    | [.non], e => simp [blt2] at e
    | [.bl _], e => simp [blt2] at e
    | [.int _], e => simp [blt2] at e
    | [.str _], e => simp [blt2] at e
    | [.frl _], e => simp [blt2] at e
    | [.dct _ _], e => simp [blt2] at e
    | [.ins _ _], e => simp [blt2] at e
    | _ :: _ :: _, e => simp [blt2] at e
  | gcd =>
    match ts, e with
    | [], e => simp [blt2] at e
    | [_], e => simp [blt2] at e
    | x :: y :: z :: r, e => cases x <;> cases y <;> simp [blt2] at e
    | [x, y], e =>
      cases x <;> cases y <;> first | (simp [blt2] at e; done) | skip
      simp only [blt2, Option.some.injEq] at e
      subst e
      obtain ⟨v, w, rfl, h, h'⟩ := cs.two
      exact cr_gcd pins s σ H _ us Q I rs ⟨_, _, by rw [h.int_inv, h'.int_inv], q.flat sm (.int _)⟩
  | dict => simp [blt2] at e
end
end PV

/-! PV9: dicts, places, methods on values -/
namespace PV
open PySem PySem.Spec PyProof.Rows L2
theorem KeyT.eq_iff {k k' : Key} {x x' : T} (h : KeyT k x) (h' : KeyT k' x') : decide (k = k') = x.eq x' := by
  cases h with
  | int i =>
    cases h' with
    | int j => rw [key_ll]; simp [T.eq]
    | str s => rw [key_lr]; simp [T.eq]
  | str s =>
    cases h' with
    | int j => rw [key_rl]; simp [T.eq]
    | str s' =>
      rw [key_rr]
      simp only [T.eq]
      rw [Bool.eq_iff_iff]
      simp only [decide_eq_true_eq, beq_iff_eq]
      exact ⟨ofString_inj, fun h => by rw [h]⟩
theorem KeyT.iff {k k' : Key} {x x' : T} (h : KeyT k x) (h' : KeyT k' x') : k = k' ↔ x.eq x' = true := by
  rw [← h.eq_iff h', decide_eq_true_eq]
theorem keys_iff : ∀ {ks ks' : List Key} {xs xs' : List T}, Paired KeyT ks xs → Paired KeyT ks' xs' → (ks = ks' ↔ T.eqs xs xs' = true)
  | _, _, _, _, .nil, .nil => by simp [T.eqs]
  | _, _, _, _, .nil, .cons _ _ => by simp [T.eqs]
  | _, _, _, _, .cons _ _, .nil => by simp [T.eqs]
  | _, _, _, _, .cons a b, .cons c d => by
    simp only [T.eqs, List.cons.injEq, Bool.and_eq_true]
    rw [a.iff c, keys_iff b d]
theorem keys_eq {ks ks' : List Key} {xs xs' : List T} (a : Paired KeyT ks xs) (b : Paired KeyT ks' xs') : decide (ks = ks') = T.eq (.tup xs) (.tup xs') := by
  rw [Bool.eq_iff_iff, decide_eq_true_eq, keys_iff a b]
  simp only [T.eq]
section
variable {W : Wd} {F : Hp}
theorem Rep.key {v : V} {x : T} (h : Rep W F v x) (k : x.keyOk false = true) : ∃ k, KeyT k x ∧ v = kV k := by
  cases x with
  | int i => exact ⟨.inl i, .int i, h.int_inv⟩
  | str s => exact ⟨.inr _, .str s, h.str_inv⟩
  | tup xs => simp [T.keyOk] at k
  | _ => simp [T.keyOk] at k
theorem Reps.keys : ∀ {vs : List V} {xs : List T}, Reps W F vs xs → xs.all T.isKey = true → ∃ ks, Paired KeyT ks xs ∧ vs = ks.map kV
  | _, _, .nil, _ => ⟨[], .nil, rfl⟩
  | _, _, .cons (v := v0) (t := x) a b, h => by
    rw [List.all_cons, Bool.and_eq_true] at h
    obtain ⟨ks, h1, h2⟩ := Reps.keys b h.2
    have : ∃ k, KeyT k x ∧ v0 = kV k := by
      cases x with
      | int i => exact ⟨.inl i, .int i, a.int_inv⟩
      | str s => exact ⟨.inr _, .str s, a.str_inv⟩
      | _ => simp [T.isKey] at h
    obtain ⟨k, h3, h4⟩ := this
    exact ⟨k :: ks, .cons h3 h1, by rw [h4, h2]; rfl⟩
theorem Rep.keyT {v : V} {x : T} (h : Rep W F v x) (k : x.keyOk true = true) : ∃ xs ks b, x = .tup xs ∧ Paired KeyT ks xs ∧ v = .ref b ∧ F b = some (.tup (ks.map kV)) := by
  cases x with
  | tup xs =>
    obtain ⟨b, vs, rfl, h1, h2⟩ := h.tup_inv
    simp only [T.keyOk, Bool.true_and] at k
    obtain ⟨ks, k1, rfl⟩ := h2.keys k
    exact ⟨xs, ks, b, rfl, k1, rfl, h1⟩
  | _ => simp [T.keyOk] at k
theorem RepD.get : ∀ {kvs : List (Key × V)} {ts : List (T × T)} {k : Key} {x : T}, RepD W F kvs ts → KeyT k x → (∀ t, dget ts x = some t → ∃ v, valV kvs k = some v ∧ Rep W F v t) ∧ (dget ts x = none → valV kvs k = none)
  | _, _, k, x, .nil, _ => ⟨fun t h => by simp [dget] at h, fun _ => rfl⟩
  | _, _, k, x, .cons (k := k') (v := v) (kvs := kvs) (x := x') (t := t) (ts := ts) a b c, h => by
    have ih := RepD.get c h
    have e := a.eq_iff h
    unfold dget valV at ih ⊢
    rw [List.find?_cons, List.find?_cons]
    simp only [e]
    cases q : x'.eq x with
    | true => exact ⟨fun t' h' => by simp at h'; subst h'; exact ⟨v, rfl, b⟩, fun h' => by simp at h'⟩
    | false => exact ih
theorem RepE.get : ∀ {kvs : List (List Key × V)} {ts : List (T × T)} {ks : List Key} {xs : List T}, RepE W F kvs ts → Paired KeyT ks xs → (∀ t, dget ts (.tup xs) = some t → ∃ v, valV kvs ks = some v ∧ Rep W F v t) ∧ (dget ts (.tup xs) = none → valV kvs ks = none)
  | _, _, k, x, .nil, _ => ⟨fun t h => by simp [dget] at h, fun _ => rfl⟩
  | _, _, k, x, .cons (k := k') (v := v) (kvs := kvs) (x := x') (t := t) (ts := ts) a b c, h => by
    have ih := RepE.get c h
    have e := keys_eq a h
    unfold dget valV at ih ⊢
    rw [List.find?_cons, List.find?_cons]
    simp only [e]
    cases q : (T.tup x').eq (T.tup x) with
    | true => exact ⟨fun t' h' => by simp at h'; subst h'; exact ⟨v, rfl, b⟩, fun h' => by simp at h'⟩
    | false => exact ih
theorem RepD.any {kvs : List (Key × V)} {ts : List (T × T)} {k : Key} {x : T} (h : RepD W F kvs ts) (kx : KeyT k x) : (kvs.any fun kv => decide (kv.1 = k)) = (ts.any fun kv => kv.1.eq x) := by
  induction ts generalizing kvs with
  | nil => cases h; rfl
  | cons t ts ih => cases h with | cons a b c => rw [List.any_cons, List.any_cons, ih c, a.eq_iff kx]
theorem RepE.any {kvs : List (List Key × V)} {ts : List (T × T)} {k : List Key} {x : List T} (h : RepE W F kvs ts) (kx : Paired KeyT k x) : (kvs.any fun kv => decide (kv.1 = k)) = (ts.any fun kv => kv.1.eq (.tup x)) := by
  induction ts generalizing kvs with
  | nil => cases h; rfl
  | cons t ts ih => cases h with | cons a b c => rw [List.any_cons, List.any_cons, ih c, keys_eq a kx]
theorem RepD.snoc {kvs : List (Key × V)} {ts : List (T × T)} {k : Key} {x t : T} {v : V} (h : RepD W F kvs ts) (kx : KeyT k x) (r : Rep W F v t) : RepD W F (kvs ++ [(k, v)]) (ts ++ [(x, t)]) := by
  induction ts generalizing kvs with
  | nil => cases h; exact .cons kx r .nil
  | cons t ts ih => cases h with | cons a b c => exact .cons a b (ih c)
theorem RepE.snoc {kvs : List (List Key × V)} {ts : List (T × T)} {k : List Key} {x : List T} {t : T} {v : V} (h : RepE W F kvs ts) (kx : Paired KeyT k x) (r : Rep W F v t) : RepE W F (kvs ++ [(k, v)]) (ts ++ [(.tup x, t)]) := by
  induction ts generalizing kvs with
  | nil => cases h; exact .cons kx r .nil
  | cons t ts ih => cases h with | cons a b c => exact .cons a b (ih c)
theorem RepD.swap {kvs : List (Key × V)} {ts : List (T × T)} {k : Key} {x t : T} {v : V} (h : RepD W F kvs ts) (kx : KeyT k x) (r : Rep W F v t) :
    RepD W F (kvs.map fun kv => if kv.1 = k then (kv.1, v) else kv) (ts.map fun kv => if kv.1.eq x then (kv.1, t) else kv) := by
  induction ts generalizing kvs with
  | nil => cases h; exact .nil
  | cons u ts ih =>
    cases h with
    | @cons k' v' kvs' x' t' _ a b c =>
      have e := a.iff kx
      rw [List.map_cons, List.map_cons]
      by_cases q : k' = k
      · simp only [q, e.mp q, if_true]
        exact .cons (by rw [← q]; exact a) r (ih c)
      · have q' : ¬ x'.eq x = true := fun z => q (e.mpr z)
        simp only [q, q', if_false]
        exact .cons a b (ih c)
theorem RepE.swap {kvs : List (List Key × V)} {ts : List (T × T)} {k : List Key} {x : List T} {t : T} {v : V} (h : RepE W F kvs ts) (kx : Paired KeyT k x) (r : Rep W F v t) :
    RepE W F (kvs.map fun kv => if kv.1 = k then (kv.1, v) else kv) (ts.map fun kv => if kv.1.eq (.tup x) then (kv.1, t) else kv) := by
  induction ts generalizing kvs with
  | nil => cases h; exact .nil
  | cons u ts ih =>
    cases h with
    | @cons k' v' kvs' x' t' _ a b c =>
      have e : k' = k ↔ (T.tup x').eq (T.tup x) = true := by rw [← keys_eq a kx, decide_eq_true_eq]
      rw [List.map_cons, List.map_cons]
      by_cases q : k' = k
      · simp only [q, e.mp q, if_true]
        exact .cons (by rw [← q]; exact a) r (ih c)
      · have q' : ¬ (T.tup x').eq (T.tup x) = true := fun z => q (e.mpr z)
        simp only [q, q', if_false]
        exact .cons a b (ih c)
theorem RepD.put {kvs : List (Key × V)} {ts : List (T × T)} {k : Key} {x t : T} {v : V} (h : RepD W F kvs ts) (kx : KeyT k x) (r : Rep W F v t) : RepD W F (putK kvs k v) (dput ts x t) := by
  unfold putK dput
  rw [h.any kx]
  split
  · exact h.swap kx r
  · exact h.snoc kx r
theorem RepE.put {kvs : List (List Key × V)} {ts : List (T × T)} {k : List Key} {x : List T} {t : T} {v : V} (h : RepE W F kvs ts) (kx : Paired KeyT k x) (r : Rep W F v t) : RepE W F (putK kvs k v) (dput ts (.tup x) t) := by
  unfold putK dput
  rw [h.any kx]
  split
  · exact h.swap kx r
  · exact h.snoc kx r
end
/-- a dict is asked: DGet for any key that is let -/
theorem dget_ok {W : Wd} {F H : Hp} {v u : V} {tk : Bool} {kvs : List (T × T)} {x : T} (sm : Same F H) (h : Cur W H F v (.dct tk kvs)) (k : Rep W F u x) (ok : x.keyOk tk = true) :
    ∃ a o, v = .ref a ∧ DGet H a u o ∧ IsD H a ∧ (match dget kvs x with | some t => ∃ w, o = some w ∧ Rep W F w t | none => o = none) := by
  cases tk with
  | false =>
    obtain ⟨a, ws, rfl, h1, h2⟩ := h.dK_inv sm
    obtain ⟨k', kt, rfl⟩ := k.key ok
    obtain ⟨g1, g2⟩ := h2.get kt
    refine ⟨a, valV ws k', rfl, .k h1, .inl ⟨ws, .inl h1⟩, ?_⟩
    cases e : dget kvs x with
    | some t => exact g1 t e
    | none => exact g2 e
  | true =>
    obtain ⟨a, ws, rfl, h1, h2⟩ := h.dT_inv sm
    obtain ⟨xs, ks, b, rfl, kt, rfl, kb⟩ := k.keyT ok
    obtain ⟨g1, g2⟩ := h2.get kt
    refine ⟨a, valV ws ks, rfl, .t h1 (sm _ _ kb), .inr ⟨ws, .inl h1⟩, ?_⟩
    cases e : dget kvs (.tup xs) with
    | some t => exact g1 t e
    | none => exact g2 e
theorem place_ix (n : Nat) (i : Int) : place n i = ixN n i := rfl
theorem getAt_atI {W : Wd} {F : Hp} {vs : List V} {xs : List T} {i : Int} {t : T} (h : Reps W F vs xs) (e : getAt xs i = some t) : ∃ v, atI vs i = some v ∧ Rep W F v t := by
  unfold getAt at e
  unfold atI
  rw [place_ix] at e
  rw [h.length]
  cases q : ixN xs.length i with
  | none => rw [q] at e; cases e
  | some j =>
    rw [q] at e
    exact h.get e
theorem cut_sIx (n d : Nat) (i : Option Int) : cut n d i = HT.sIx n d i := by
  cases i with
  | none => rfl
  | some i =>
    unfold cut HT.sIx
    rfl
end PV

/-! PV10: what an expression of the text does, by the evaluator -/
namespace PV
open PySem PySem.Spec PyProof.Rows L2
theorem _root_.L2.PE.mono' {X : Cx} {e : Expr} {t t' : TE} (h : PE X e t) (m : ∀ σ H Q, t' σ H Q → t σ H Q) : PE X e t' := ⟨fun pins s σ H Q I q => h.run pins s σ H Q I (m σ H Q q)⟩
theorem _root_.L2.PT.mono' {X : Cx} {e : Expr} {t t' : TT} (h : PT X e t) (m : ∀ σ H Q, t' σ H Q → t σ H Q) : PT X e t' := ⟨fun pins s σ H Q I q => h.run pins s σ H Q I (m σ H Q q)⟩
theorem _root_.L2.PW.mono' {X : Cx} {e : Expr} {t t' : TT} (h : PW X e t) (m : ∀ σ H Q, t' σ H Q → t σ H Q) : PW X e t' := ⟨fun wh pins s σ H Q I q => h.run wh pins s σ H Q I (m σ H Q q)⟩
theorem _root_.L2.PA.mono' {X : Cx} {e : List Expr} {t t' : TA} (h : PA X e t) (m : ∀ σ H Q, t' σ H Q → t σ H Q) : PA X e t' := ⟨fun pos pins s σ H Q I q => h.run pos pins s σ H Q I (m σ H Q q)⟩
theorem _root_.L2.PS.mono' {X : Cx} {e : Stmt} {t t' : TS} (h : PS X e t) (m : ∀ D σ H, t' D σ H → t D σ H) : PS X e t' := ⟨fun pins s σ H D I q => h.run pins s σ H D I (m D σ H q)⟩
theorem _root_.L2.PSs.mono' {X : Cx} {e : List Stmt} {t t' : TS} (h : PSs X e t) (m : ∀ D σ H, t' D σ H → t D σ H) : PSs X e t' := ⟨fun pins s σ H D I q => h.run pins s σ H D I (m D σ H q)⟩
theorem _root_.L2.PE.or' {X : Cx} {e : Expr} {t t' : TE} (h : PE X e t) (h' : PE X e t') : PE X e (fun σ H Q => t σ H Q ∨ t' σ H Q) := ⟨fun pins s σ H Q I q => by
  rcases q with q | q
  · exact h.run pins s σ H Q I q
  · exact h'.run pins s σ H Q I q⟩
/-- from one state to a later one, within an expression: no slot is filled -/
structure ExE (W : Wd) (σ : Sl) (H F : Hp) (g : G) (H' F' : Hp) (g' : G) : Prop where
  x : Ext W σ H F g σ H' F' g'
  shr : ∀ (i : Nat) (t' : T), g'[i]? = some (Slot.ow t') → ∃ t : T, g[i]? = some (Slot.ow t)
theorem ExE.refl {W : Wd} {σ : Sl} {H F : Hp} {g : G} (st : Sta W σ H F g) : ExE W σ H F g H F g := ⟨st.refl, fun _ t h => ⟨t, h⟩⟩
theorem ExE.trans {W : Wd} {σ : Sl} {H F H1 F1 H2 F2 : Hp} {g g1 g2 : G} (a : ExE W σ H F g H1 F1 g1) (b : ExE W σ H1 F1 g1 H2 F2 g2) : ExE W σ H F g H2 F2 g2 :=
  ⟨a.x.trans b.x, fun i t h => by
    obtain ⟨t1, h1⟩ := b.shr i t h
    exact a.shr i t1 h1⟩
theorem ExE.st {W : Wd} {σ : Sl} {H F H1 F1 : Hp} {g g1 : G} (a : ExE W σ H F g H1 F1 g1) : Sta W σ H1 F1 g1 := a.x.st
/-- a new object stands in no slot -/
theorem ExE.apart {W : Wd} {σ : Sl} {H F H1 F1 : Hp} {g g1 : G} (x : ExE W σ H F g H1 F1 g1) (st : Sta W σ H F g) {a : Addr} (h0 : H a = none) : ∀ (i : Nat) (s : Slot) (t : T), g1[i]? = some s → s.mineT = some t → σ[i]? ≠ some (some (.ref a)) := by
  intro i s t hi m z
  have key : ∀ s0 t0, g[i]? = some s0 → Slot.mineT s0 = some t0 → False := fun s0 t0 h m0 => by
    obtain ⟨b, u, l1, l2, l3, l4⟩ := (st.slot i s0 h).mine m0
    rw [z] at l1; cases l1
    rw [h0] at l3; cases l3
  cases s with
  | no => cases m
  | sh _ => cases m
  | ow t1 => obtain ⟨t0, h⟩ := x.shr i t1 hi; exact key _ _ h rfl
  | bo t1 => obtain ⟨t0, h⟩ := (x.x.bor i).mpr ⟨t1, hi⟩; exact key _ _ h rfl
  | lk t1 => exact key _ _ ((x.x.lck i t1).mpr hi) rfl
/-- the evaluator's answer f from the state g, brought into the heap -/
def Go {α : Type} (W : Wd) (R : Hp → Hp → Hp → α → V → Prop) (f : M α) : TE := fun σ H Q => ∃ F g a g', Sta W σ H F g ∧ f g = some (a, g') ∧ ∀ v H' F', ExE W σ H F g H' F' g' → R H H' F' a v → Q v H'
section
variable (W : Wd) (gl : String → Option T) (cl : Cl)
def tX (e : CE) : TE := Go W (Val W e) (evX gl cl e)
def tK (e : CE) : TE := Go W (fun _ _ F' t v => Rep W F' v t) (kept e (evX gl cl e))
/-- an expression of the text and its core form -/
structure Sd (X : Cx) (ex : Expr) (e : CE) : Prop where
  pe : PE X ex (tX W gl cl e)
  var : ∀ i, e = .var i → PE X ex (tVar i)
end
theorem bind_some {α β : Type} {m : M α} {f : α → M β} {g : G} {r : β × G} (h : (m >>= f) g = some r) : ∃ a g', m g = some (a, g') ∧ f a g' = some r := by
  have h' : (match m g with | none => none | some (a, g') => f a g') = some r := h
  split at h'
  · cases h'
  · rename_i a g' e
    exact ⟨a, g', e, h'⟩
theorem bind_of {α β : Type} {m : M α} {f : α → M β} {g g' : G} {a : α} (h : m g = some (a, g')) : (m >>= f) g = f a g' := by
  have h' : (m >>= f) g = (match m g with | none => none | some (a, g') => f a g') := rfl
  rw [h', h]
theorem pure_some {α : Type} {a : α} {g : G} {r : α × G} (h : (M.pure a : M α) g = some r) : r = (a, g) := by
  have h' : some (a, g) = some r := h
  cases h'; rfl
theorem lift_some {α : Type} {o : Option α} {g : G} {a : α} {g' : G} (h : (lift o : M α) g = some (a, g')) : o = some a ∧ g' = g := by
  cases o with
  | none => cases h
  | some b => have h' : some (b, g) = some (a, g') := h; cases h'; exact ⟨rfl, rfl⟩
theorem ask_some {b : Bool} {g g' : G} {u : Unit} (h : ask b g = some (u, g')) : b = true ∧ g' = g := by
  cases b with
  | false => cases h
  | true => have h' : some ((), g) = some (u, g') := h; cases h'; exact ⟨rfl, rfl⟩
section
variable {W : Wd} {gl : String → Option T} {cl : Cl} {X : Cx}
theorem peek_some {i : Nat} {g g' : G} {t : T} (h : peek i g = some (t, g')) : g' = g ∧ ∃ s, g[i]? = some s ∧ s.get = some t := by
  unfold peek at h
  split at h
  · rename_i s e
    split at h
    · rename_i t' e'
      cases h
      exact ⟨rfl, s, e, e'⟩
    · cases h
  · cases h
theorem Slot.get_cases {s : Slot} {t : T} (h : s.get = some t) : s = .sh t ∨ s.mineT = some t := by
  cases s <;> simp [Slot.get] at h <;> subst h <;> simp [Slot.mineT]
/-- what a slot holds, seen from the heap -/
theorem Sta.look {σ : Sl} {H F : Hp} {g : G} {i : Nat} {s : Slot} {t : T} (st : Sta W σ H F g) (h : g[i]? = some s) (e : s.get = some t) : ∃ v, σ[i]? = some (some v) ∧ Cur W H F v t := by
  have q := st.slot i s h
  rcases Slot.get_cases e with rfl | m
  · obtain ⟨v, h1, h2⟩ := q
    exact ⟨v, h1, .rep h2⟩
  · obtain ⟨a, o, h1, h2, h3, h4⟩ := q.mine m
    exact ⟨_, h1, .here h3 h4⟩
theorem sd_var {ex : Expr} {i : Nat} (h : PE X ex (tVar i)) : Sd W gl cl X ex (.var i) := by
  refine ⟨h.mono' ?_, fun j e => by cases e; exact h⟩
  rintro σ H Q ⟨F, g, r, g', st, ev, q⟩
  obtain ⟨t, g1, e1, e2⟩ := bind_some ev
  obtain ⟨rfl, s, e3, e4⟩ := peek_some e1
  cases pure_some e2
  obtain ⟨v, h1, h2⟩ := st.look e3 e4
  refine ⟨v, h1, q v H F (.refl st) ?_⟩
  unfold Val
  rw [if_neg (by simp), if_pos (show (CE.var i).isVar = true from rfl)]
  exact h2
/-- a value is kept -/
theorem Sd.kept {ex : Expr} {e : CE} (h : Sd W gl cl X ex e) : PE X ex (tK W gl cl e) := by
  by_cases hv : e.isVar = true
  · obtain ⟨i, rfl⟩ : ∃ i, e = .var i := by cases e <;> first | exact ⟨_, rfl⟩ | cases hv
    refine (h.var i rfl).mono' ?_
    rintro σ H Q ⟨F, g, t, g', st, ev, q⟩
    simp only [PV.kept, rd] at ev
    split at ev
    · rename_i u e3
      cases ev
      obtain ⟨v, h1, h2⟩ := st.slot i _ e3
      exact ⟨v, h1, q v H F (.refl st) h2⟩
    · rename_i u e3
      cases ev
      obtain ⟨a, o, h1, h2, h3, h4⟩ := (st.slot i _ e3).mine rfl
      obtain ⟨x, r⟩ := st.share e3 h1 h3
      refine ⟨_, h1, q _ H _ ⟨x, fun j t' hj => ?_⟩ r⟩
      rcases get_set hj with ⟨rfl, e⟩ | ⟨_, hj⟩
      · cases e
      · exact ⟨_, hj⟩
    · cases ev
  · refine h.pe.mono' ?_
    rintro σ H Q ⟨F, g, t, g', st, ev, q⟩
    have ev' : (do let r ← evX gl cl e; M.pure r.2 : M T) g = some (t, g') := by
      cases e <;> first | exact ev | (exact absurd rfl hv)
    obtain ⟨r, g1, e1, e2⟩ := bind_some ev'
    cases pure_some e2
    refine ⟨F, g, r, g', st, e1, fun v H' F' x val => ?_⟩
    unfold Val at val
    split at val
    · obtain ⟨a, o, rfl, h0, h1, h2, h3⟩ := val
      exact q _ H' _ ⟨x.x.freeze h0 h1 h2 (x.apart st h0), x.shr⟩ ((h3.mono (upd_same_of h2)).rep upd_same)
    · exact q _ H' F' x val
end
end PV

/-! PV11: the forms of expressions, one by one -/
namespace PV
open PySem PySem.Spec PyProof.Rows L2
section
variable {W : Wd} {gl : String → Option T} {cl : Cl} {X : Cx} {pos : Pos}
theorem Sd.of {ex : Expr} {e : CE} (ne : e.isVar = false) (h : PE X ex (tX W gl cl e)) : Sd W gl cl X ex e := ⟨h, fun i z => by subst z; cases ne⟩
theorem Out.exE {σ : Sl} {H F H1 F1 : Hp} {g : G} {r : Bool × T} {v : V} (o : Out W H F r v H1 F1) (st : Sta W σ H F g) : ExE W σ H F g H1 F1 g := ⟨o.ext st, fun _ t h => ⟨t, h⟩⟩
theorem Val.rep {e : CE} {H H' F' : Hp} {t : T} {v : V} (ne : e.isVar = false) (h : Rep W F' v t) : Val W e H H' F' (false, t) v := by
  unfold Val
  rw [if_neg (by simp), ne]
  exact h
theorem Val.cur {e : CE} {H H' F' : Hp} {r : Bool × T} {v : V} (h : Val W e H H' F' r v) : Cur W H' F' v r.2 := by
  unfold Val at h
  split at h
  · obtain ⟨a, o, rfl, _, h1, _, h2⟩ := h
    exact .here h1 h2
  · split at h
    · exact h
    · exact .rep h
theorem go_flat {ex : Expr} {t : T} {f : M (Bool × T)} {e : CE} {u : V} (ne : e.isVar = false) (h : PE X ex (tC u)) (hf : ∀ g, f g = some ((false, t), g)) (r : ∀ F, Rep W F u t) : PE X ex (Go W (Val W e) f) := by
  refine h.mono' ?_
  rintro σ H Q ⟨F, g, a, g', st, ev, q⟩
  rw [hf g] at ev
  cases ev
  exact q u H F (.refl st) (.rep ne (r F))
theorem sd_int {i : Int} {k : Nat} : Sd W gl cl X (.Constant (.int i) k pos) (.int i) := .of rfl (go_flat rfl pe_int (fun g => rfl) fun _ => .int i)
theorem sd_bl {i : Bool} {k : Nat} : Sd W gl cl X (.Constant (.bool i) k pos) (.bl i) := .of rfl (go_flat rfl pe_bl (fun g => rfl) fun _ => .bl i)
theorem sd_non {k : Nat} : Sd W gl cl X (.Constant .none k pos) .non := .of rfl (go_flat rfl pe_non (fun g => rfl) fun _ => .non)
theorem sd_str {i : String} {k : Nat} : Sd W gl cl X (.Constant (.str (Str.ofString i)) k pos) (.str i) := .of rfl (go_flat rfl pe_str (fun g => rfl) fun _ => .str i)
theorem sd_glob {ex : Expr} {x : String} {t : T} {u : V} (e : gl x = some t) (h : PE X ex (tC u)) (r : ∀ F, Rep W F u t) : Sd W gl cl X ex (.glob x) :=
  .of rfl (go_flat rfl h (fun g => by simp only [evX, e]; rfl) r)
/-! operators -/
theorem sd_bin {o : Op2} {a b : Expr} {ca cb : CE} (hK : X.K = W.K) (ha : Sd W gl cl X a ca) (hb : Sd W gl cl X b cb) : Sd W gl cl X (.BinOp a o.op b pos) (.bin o ca cb) := by
  refine .of rfl ((pe_op (op2_ok hK o) ha.kept hb.kept).mono' ?_)
  rintro σ H Q ⟨F, g, r, g', st, ev, q⟩
  simp only [evX] at ev
  obtain ⟨x, g1, e1, f1⟩ := bind_some ev
  obtain ⟨y, g2, e2, f2⟩ := bind_some f1
  obtain ⟨e3, rfl⟩ := lift_some f2
  refine ⟨F, g, x, g1, st, e1, fun v H1 F1 x1 r1 => ⟨F1, g1, y, g', x1.st, e2, fun u H2 F2 x2 r2 => ⟨F2, x, y, r, x2.st.same, r1.mono x2.x.mono, r2, e3, fun w H3 F3 o => ?_⟩⟩⟩
  have x12 := x1.trans x2
  exact q w H3 F3 (x12.trans (o.exE x2.st)) (o.valX x12.x.dom rfl)
theorem sd_neg {a : Expr} {ca : CE} (ha : Sd W gl cl X a ca) : Sd W gl cl X (.UnaryOp .USub a pos) (.neg ca) := by
  refine .of rfl ((pe_un un_neg ha.pe).mono' ?_)
  rintro σ H Q ⟨F, g, r, g', st, ev, q⟩
  simp only [evX] at ev
  obtain ⟨x, g1, e1, f1⟩ := bind_some ev
  obtain ⟨i, g2, e2, f2⟩ := bind_some f1
  obtain ⟨e3, rfl⟩ := lift_some e2
  cases pure_some f2
  refine ⟨F, g, x, g', st, e1, fun v H1 F1 x1 r1 => ?_⟩
  have c := r1.cur
  have e4 : x.2 = .int i := by
    cases h : x.2 <;> rw [h] at e3 <;> simp [T.int?] at e3
    rw [e3]
  rw [e4] at c
  exact ⟨i, c.int_inv, q _ H1 F1 x1 (.rep rfl (.int _))⟩
theorem sd_not {a : Expr} {ca : CE} (hK : X.K = W.K) (ha : Sd W gl cl X a ca) : Sd W gl cl X (.UnaryOp .Not a pos) (.not ca) := by
  refine .of rfl ((pe_notT ha.pe).mono' ?_)
  rintro σ H Q ⟨F, g, r, g', st, ev, q⟩
  simp only [evX] at ev
  obtain ⟨x, g1, e1, f1⟩ := bind_some ev
  obtain ⟨i, g2, e2, f2⟩ := bind_some f1
  obtain ⟨e3, rfl⟩ := lift_some e2
  cases pure_some f2
  refine ⟨F, g, x, g', st, e1, fun v H1 F1 x1 r1 => ?_⟩
  exact ⟨i, by rw [hK]; exact r1.cur.truth x1.st.same e3, q _ H1 F1 x1 (.rep rfl (.bl _))⟩
theorem cmp_imp {o : Cm} {ca cb : CE} : ∀ σ H Q, tX W gl cl (.cmp o ca cb) σ H Q → tOp (rC W o) (tK W gl cl ca) (tK W gl cl cb) σ H Q := by
  rintro σ H Q ⟨F, g, r, g', st, ev, q⟩
  simp only [evX] at ev
  obtain ⟨x, g1, e1, f1⟩ := bind_some ev
  obtain ⟨y, g2, e2, f2⟩ := bind_some f1
  obtain ⟨k, g3, e3, f3⟩ := bind_some f2
  obtain ⟨e4, rfl⟩ := lift_some e3
  cases pure_some f3
  refine ⟨F, g, x, g1, st, e1, fun v H1 F1 x1 r1 => ⟨F1, g1, y, g', x1.st, e2, fun u H2 F2 x2 r2 => ⟨F2, x, y, k, x2.st.same, r1.mono x2.x.mono, r2, e4, ?_⟩⟩⟩
  exact q _ H2 F2 (x1.trans x2) (.rep rfl (.bl _))
theorem sd_cmp {o : Cm} {a b : Expr} {ca cb : CE} (hK : X.K = W.K) (hu : X.A.units + 64 < cLine) (ha : Sd W gl cl X a ca) (hb : Sd W gl cl X b cb) : Sd W gl cl X (.Compare a [o.op] [b] pos) (.cmp o ca cb) :=
  .of rfl ((pe_cmpR (cmp2_ok hK hu o) ha.kept hb.kept (o.nomark b)).mono' cmp_imp)
theorem lastMarks_cm (o o' : Cm) (b c : Expr) : lastMarks [o.op, o'.op] [b, c] = false := o'.nomark c
theorem chain_imp {o o' : Cm} {ca cb cc : CE} : ∀ σ H Q, tX W gl cl (.chain o o' ca cb cc) σ H Q → tChain (rC W o) (rC W o') (tK W gl cl ca) (tK W gl cl cb) (tK W gl cl cc) σ H Q := by
  rintro σ H Q ⟨F, g, r, g', st, ev, q⟩
  simp only [evX] at ev
  obtain ⟨x, g1, e1, f1⟩ := bind_some ev
  obtain ⟨y, g2, e2, f2⟩ := bind_some f1
  obtain ⟨k, g3, e3, f3⟩ := bind_some f2
  obtain ⟨e4, rfl⟩ := lift_some e3
  refine ⟨F, g, x, g1, st, e1, fun v H1 F1 x1 r1 => ⟨F1, g1, y, g3, x1.st, e2, fun u H2 F2 x2 r2 => ⟨F2, x, y, k, x2.st.same, r1.mono x2.x.mono, r2, e4, k, rfl, ?_⟩⟩⟩
  have x12 := x1.trans x2
  cases k with
  | false =>
    cases pure_some f3
    exact q _ H2 F2 x12 (.rep rfl (.bl _))
  | true =>
    rw [if_pos rfl] at f3
    obtain ⟨z, g4, e5, f4⟩ := bind_some f3
    obtain ⟨k', g5, e6, f5⟩ := bind_some f4
    obtain ⟨e7, rfl⟩ := lift_some e6
    cases pure_some f5
    exact ⟨F2, g3, z, g', x2.st, e5, fun w H3 F3 x3 r3 => ⟨F3, y, z, k', x3.st.same, r2.mono x3.x.mono, r3, e7, q _ H3 F3 (x12.trans x3) (.rep rfl (.bl _))⟩⟩
theorem sd_chain {o o' : Cm} {a b c : Expr} {ca cb cc : CE} (hK : X.K = W.K) (hu : X.A.units + 64 < cLine) (ha : Sd W gl cl X a ca) (hb : Sd W gl cl X b cb) (hc : Sd W gl cl X c cc) : Sd W gl cl X (.Compare a [o.op, o'.op] [b, c] pos) (.chain o o' ca cb cc) :=
  .of rfl ((pe_chain (cmp2_ok hK hu o) (cmp2_ok hK hu o') ha.kept hb.kept hc.kept (lastMarks_cm o o' b c)).mono' chain_imp)
theorem isn_val {H F : Hp} (sm : Same F H) {v : V} {t : T} {neg : Bool} (c : Cur W H F v t) : (if neg then !decide (v = .non) else decide (v = .non)) = t.isnV neg := by
  cases t with
  | non => rw [c.non_inv]; cases neg <;> rfl
  | bl _ => rw [c.bl_inv]; cases neg <;> rfl
  | int _ => rw [c.int_inv]; cases neg <;> rfl
  | str _ => rw [c.str_inv]; cases neg <;> rfl
  | tup _ => obtain ⟨_, _, e, _⟩ := c.tup_inv sm; rw [e]; cases neg <;> rfl
  | lst _ => obtain ⟨_, _, e, _⟩ := c.lst_inv sm; rw [e]; cases neg <;> rfl
  | frl _ => obtain ⟨_, _, e, _⟩ := c.frl_inv sm; rw [e]; cases neg <;> rfl
  | dct tk _ =>
    cases tk with
    | true => obtain ⟨_, _, e, _⟩ := c.dT_inv sm; rw [e]; cases neg <;> rfl
    | false => obtain ⟨_, _, e, _⟩ := c.dK_inv sm; rw [e]; cases neg <;> rfl
  | ins _ _ => obtain ⟨_, _, _, _, e, _⟩ := c.ins_inv sm; rw [e]; cases neg <;> rfl
theorem isn_imp {ca : CE} {neg : Bool} : ∀ σ H Q, tX W gl cl (.isn ca neg) σ H Q → tX W gl cl ca σ H fun v H1 => Q (.bl (if neg then !decide (v = .non) else decide (v = .non))) H1 := by
  rintro σ H Q ⟨F, g, r, g', st, ev, q⟩
  simp only [evX] at ev
  obtain ⟨x, g1, e1, f1⟩ := bind_some ev
  cases pure_some f1
  refine ⟨F, g, x, g', st, e1, fun v H1 F1 x1 r1 => ?_⟩
  have e := isn_val (neg := neg) x1.st.same r1.cur
  show Q (.bl (if neg then !decide (v = .non) else decide (v = .non))) H1
  rw [e]
  exact q _ H1 F1 x1 (.rep rfl (.bl _))
theorem isF_imp {ca : CE} : ∀ σ H Q, tX W gl cl (.isn ca false) σ H Q → tOp (fun x y H Q => y = .non ∧ Q (.bl (decide (x = .non))) H) (tX W gl cl ca) (tC .non) σ H Q := fun σ H Q h => by
  obtain ⟨F, g, r, g', st, ev, q⟩ := isn_imp σ H Q h
  exact ⟨F, g, r, g', st, ev, fun v H1 F1 x1 r1 => ⟨rfl, q v H1 F1 x1 r1⟩⟩
theorem isT_imp {ca : CE} : ∀ σ H Q, tX W gl cl (.isn ca true) σ H Q → tOp (fun x y H Q => y = .non ∧ Q (.bl (!decide (x = .non))) H) (tX W gl cl ca) (tC .non) σ H Q := fun σ H Q h => by
  obtain ⟨F, g, r, g', st, ev, q⟩ := isn_imp σ H Q h
  exact ⟨F, g, r, g', st, ev, fun v H1 F1 x1 r1 => ⟨rfl, q v H1 F1 x1 r1⟩⟩
theorem sd_isn {a : Expr} {ca : CE} {k : Nat} {p : Pos} (ha : Sd W gl cl X a ca) : Sd W gl cl X (.Compare a [.Is] [.Constant .none k p] pos) (.isn ca false) :=
  .of rfl ((pe_cmpR op_isN ha.pe pe_non (nomark _)).mono' isF_imp)
theorem sd_isnN {a : Expr} {ca : CE} {k : Nat} {p : Pos} (ha : Sd W gl cl X a ca) : Sd W gl cl X (.Compare a [.IsNot] [.Constant .none k p] pos) (.isn ca true) :=
  .of rfl ((pe_cmpR op_notN ha.pe pe_non (nomark _)).mono' isT_imp)
/-! is True, is not False .. -/
theorem is_bool_gen {M0 : Model} {A : Around} {E : Value → Shared → Prop} {s : Shared} {Q : Value → Shared → Prop} {v : Value} {b : Bool} (hv : ∀ id, v ≠ .builtin id) (h : Q (.bool (v == .bool b)) s) : wpAny M0 A (compareOp .Is v (.bool b)) Q E s := by
  cases v <;> first | exact wpAny_pure h | exact absurd rfl (hv _)
theorem isnot_bool_gen {M0 : Model} {A : Around} {E : Value → Shared → Prop} {s : Shared} {Q : Value → Shared → Prop} {v : Value} {b : Bool} (hv : ∀ id, v ≠ .builtin id) (h : Q (.bool (!(v == .bool b))) s) : wpAny M0 A (compareOp .IsNot v (.bool b)) Q E s := by
  cases v <;> first | exact wpAny_pure h | exact absurd rfl (hv _)
theorem relv_bool {x : V} {v : Value} {b : Bool} (r : RelV x v) : (v == Value.bool b) = decide (x = .bl b) := by
  cases x with
  | non => cases r; rfl
  | bl c => cases r; cases b <;> cases c <;> rfl
  | int _ => obtain ⟨t, rfl⟩ := r; rfl
  | str _ => obtain ⟨t, rfl⟩ := r; rfl
  | byt _ => obtain ⟨t, rfl⟩ := r; rfl
  | flt _ => obtain ⟨t, rfl⟩ := r; rfl
  | ref _ => cases r; rfl
  | ty _ => cases r; rfl
theorem relv_nobuiltin {x : V} {v : Value} (r : RelV x v) : ∀ id, v ≠ .builtin id := by
  intro id
  cases x with
  | non => cases r; exact fun z => nomatch z
  | bl c => cases r; exact fun z => nomatch z
  | int _ => obtain ⟨t, rfl⟩ := r; exact fun z => nomatch z
  | str _ => obtain ⟨t, rfl⟩ := r; exact fun z => nomatch z
  | byt _ => obtain ⟨t, rfl⟩ := r; exact fun z => nomatch z
  | flt _ => obtain ⟨t, rfl⟩ := r; exact fun z => nomatch z
  | ref _ => cases r; exact fun z => nomatch z
  | ty _ => cases r; exact fun z => nomatch z
theorem op_isB (b : Bool) : OpR X (compareOp .Is) (fun x y H Q => y = .bl b ∧ Q (.bl (decide (x = .bl b))) H) := by
  intro pins s σ H x y v u Q I rx ry ⟨e, q⟩
  subst e
  cases ry
  exact is_bool_gen (relv_nobuiltin rx) ⟨_, H, I, by rw [relv_bool rx]; rfl, q⟩
theorem op_isnB (b : Bool) : OpR X (compareOp .IsNot) (fun x y H Q => y = .bl b ∧ Q (.bl (!decide (x = .bl b))) H) := by
  intro pins s σ H x y v u Q I rx ry ⟨e, q⟩
  subst e
  cases ry
  exact isnot_bool_gen (relv_nobuiltin rx) ⟨_, H, I, by rw [relv_bool rx]; rfl, q⟩
theorem isb_val {H F : Hp} (sm : Same F H) {v : V} {t : T} {b neg : Bool} (c : Cur W H F v t) : (if neg then !decide (v = .bl b) else decide (v = .bl b)) = t.isbV b neg := by
  cases t with
  | non => rw [c.non_inv]; cases neg <;> rfl
  | bl d => rw [c.bl_inv]; cases neg <;> cases b <;> cases d <;> rfl
  | int _ => rw [c.int_inv]; cases neg <;> rfl
  | str _ => rw [c.str_inv]; cases neg <;> rfl
  | tup _ => obtain ⟨_, _, e, _⟩ := c.tup_inv sm; rw [e]; cases neg <;> rfl
  | lst _ => obtain ⟨_, _, e, _⟩ := c.lst_inv sm; rw [e]; cases neg <;> rfl
  | frl _ => obtain ⟨_, _, e, _⟩ := c.frl_inv sm; rw [e]; cases neg <;> rfl
  | dct tk _ =>
    cases tk with
    | true => obtain ⟨_, _, e, _⟩ := c.dT_inv sm; rw [e]; cases neg <;> rfl
    | false => obtain ⟨_, _, e, _⟩ := c.dK_inv sm; rw [e]; cases neg <;> rfl
  | ins _ _ => obtain ⟨_, _, _, _, e, _⟩ := c.ins_inv sm; rw [e]; cases neg <;> rfl
theorem isb_imp {ca : CE} {b neg : Bool} : ∀ σ H Q, tX W gl cl (.isb ca b neg) σ H Q → tX W gl cl ca σ H fun v H1 => Q (.bl (if neg then !decide (v = .bl b) else decide (v = .bl b))) H1 := by
  rintro σ H Q ⟨F, g, r, g', st, ev, q⟩
  simp only [evX] at ev
  obtain ⟨x, g1, e1, f1⟩ := bind_some ev
  cases pure_some f1
  refine ⟨F, g, x, g', st, e1, fun v H1 F1 x1 r1 => ?_⟩
  have e := isb_val (b := b) (neg := neg) x1.st.same r1.cur
  show Q (.bl (if neg then !decide (v = .bl b) else decide (v = .bl b))) H1
  rw [e]
  exact q _ H1 F1 x1 (.rep rfl (.bl _))
theorem isbF_imp {ca : CE} {b : Bool} : ∀ σ H Q, tX W gl cl (.isb ca b false) σ H Q → tOp (fun x y H Q => y = .bl b ∧ Q (.bl (decide (x = .bl b))) H) (tX W gl cl ca) (tC (.bl b)) σ H Q := fun σ H Q h => by
  obtain ⟨F, g, r, g', st, ev, q⟩ := isb_imp σ H Q h
  exact ⟨F, g, r, g', st, ev, fun v H1 F1 x1 r1 => ⟨rfl, q v H1 F1 x1 r1⟩⟩
theorem isbT_imp {ca : CE} {b : Bool} : ∀ σ H Q, tX W gl cl (.isb ca b true) σ H Q → tOp (fun x y H Q => y = .bl b ∧ Q (.bl (!decide (x = .bl b))) H) (tX W gl cl ca) (tC (.bl b)) σ H Q := fun σ H Q h => by
  obtain ⟨F, g, r, g', st, ev, q⟩ := isb_imp σ H Q h
  exact ⟨F, g, r, g', st, ev, fun v H1 F1 x1 r1 => ⟨rfl, q v H1 F1 x1 r1⟩⟩
theorem sd_isb {a : Expr} {ca : CE} {k : Nat} {p : Pos} {b : Bool} (ha : Sd W gl cl X a ca) : Sd W gl cl X (.Compare a [.Is] [.Constant (.bool b) k p] pos) (.isb ca b false) :=
  .of rfl ((pe_cmpR (op_isB b) ha.pe pe_bl (nomark _)).mono' isbF_imp)
theorem sd_isbN {a : Expr} {ca : CE} {k : Nat} {p : Pos} {b : Bool} (ha : Sd W gl cl X a ca) : Sd W gl cl X (.Compare a [.IsNot] [.Constant (.bool b) k p] pos) (.isb ca b true) :=
  .of rfl ((pe_cmpR (op_isnB b) ha.pe pe_bl (nomark _)).mono' isbT_imp)
/-! x in row -/
theorem mem_seq {F H : Hp} {v u : V} {x : T} {xs : List T} (sm : Same F H) (hx : Rep W F v x) (px : x.plain deep = true) (h : Cur W H F u (.lst xs)) (ps : T.plains deep xs = true) : ∃ d ds, Dp W.K H v d ∧ Dp W.K H u (.list ds) ∧ SeqAt.shaped d = true ∧ SeqAt.shaped (.list ds) = true ∧ (ds.any fun z => PyData.eqv z d) = (xs.any fun y => y.eq x) := by
  obtain ⟨a, vs, rfl, h1, h2⟩ := h.lst_inv sm
  refine ⟨toD x, toDs xs, hx.dp sm px, .lst (.of h1) (h2.dp sm ps), plain_shaped px, ?_, ?_⟩
  · have q := plains_lay ps
    unfold SeqAt.shaped
    simp only [PyData.canLay0, PyData.depth, q.1, Bool.true_and]
    have : deep = 60 := rfl
    exact decide_eq_true (by omega)
  · clear h h1 h2
    induction xs with
    | nil => simp [toDs]
    | cons y ys ih =>
      simp only [T.plains, Bool.and_eq_true] at ps
      simp only [toDs, List.any_cons]
      rw [eqv_eq ps.1 px, ih ps.2]
end
end PV

/-! PV12: lists of expressions; and, or; tests; places -/
namespace PV
open PySem PySem.Spec PyProof.Rows L2
section
variable {W : Wd} {gl : String → Option T} {cl : Cl} {X : Cx} {pos : Pos}
/-- the evaluator's answers, many values -/
def GoA {α : Type} (W : Wd) (R : Sl → Hp → Hp → α → List V → Prop) (f : M α) : TA := fun σ H Q => ∃ F g a g', Sta W σ H F g ∧ f g = some (a, g') ∧ ∀ vs H' F', ExE W σ H F g H' F' g' → R σ H' F' a vs → Q vs H'
abbrev RL (W : Wd) : Sl → Hp → Hp → List T → List V → Prop := fun _ _ F' ts vs => Reps W F' vs ts
def notStar : Expr → Bool
  | .Starred _ _ => false
  | _ => true
theorem star_no {e : Expr} {es : List Expr} {env : Env} (h : notStar e = true) : starEach (e :: es) env = (false, eval e env) :: starEach es env := by
  cases e <;> first | rfl | cases h
theorem pa_items_nil : PA X [] (GoA W (RL W) (evL gl cl [])) := by
  refine pa_nil.mono' ?_
  rintro σ H Q ⟨F, g, ts, g', st, ev, q⟩
  simp only [evL] at ev
  cases pure_some ev
  exact q [] H F (.refl st) .nil
theorem pa_items_cons {e : Expr} {es : List Expr} {c : CE} {cs : List CE} (ns : notStar e = true) (nc : ∀ x, c ≠ .star x) (h : Sd W gl cl X e c) (hr : PA X es (GoA W (RL W) (evL gl cl cs))) : PA X (e :: es) (GoA W (RL W) (evL gl cl (c :: cs))) := by
  refine (pa_cons h.kept hr (star_no ns)).mono' ?_
  rintro σ H Q ⟨F, g, ts, g', st, ev, q⟩
  have ev' : (do let x ← kept c (evX gl cl c); let xs ← evL gl cl cs; M.pure (x :: xs) : M (List T)) g = some (ts, g') := by
    cases c <;> first | (simpa only [evL] using ev) | (exact absurd rfl (nc _))
  obtain ⟨x, g1, e1, f1⟩ := bind_some ev'
  obtain ⟨xs, g2, e2, f2⟩ := bind_some f1
  cases pure_some f2
  exact ⟨F, g, x, g1, st, e1, fun v H1 F1 x1 r1 => ⟨F1, g1, xs, g', x1.st, e2, fun vs H2 F2 x2 r2 => q _ H2 F2 (x1.trans x2) (Reps.cons (r1.mono x2.x.mono) r2)⟩⟩
theorem items_of {F H : Hp} (sm : Same F H) {v : V} {t : T} {xs : List T} (h : Cur W H F v t) (e : t.items = some xs) : ∃ a vs, v = .ref a ∧ (SqT W.K H a vs ∨ SqL W.K H a vs) ∧ Reps W F vs xs := by
  cases t <;> simp [T.items] at e <;> subst e
  · obtain ⟨a, vs, e1, e2, e3⟩ := h.tup_inv sm; exact ⟨a, vs, e1, .inl (.of e2), e3⟩
  · obtain ⟨a, vs, e1, e2, e3⟩ := h.lst_inv sm; exact ⟨a, vs, e1, .inr (.of e2), e3⟩
  · obtain ⟨a, vs, e1, e2, e3⟩ := h.frl_inv sm; exact ⟨a, vs, e1, .inr e2, e3⟩
theorem pa_items_star {e : Expr} {es : List Expr} {c : CE} {cs : List CE} {p : Pos} (hK : X.K = W.K) (h : Sd W gl cl X e c) (hr : PA X es (GoA W (RL W) (evL gl cl cs))) : PA X (.Starred e p :: es) (GoA W (RL W) (evL gl cl (.star c :: cs))) := by
  refine (StX.pa_star h.pe hr).mono' ?_
  rintro σ H Q ⟨F, g, ts, g', st, ev, q⟩
  simp only [evL] at ev
  obtain ⟨x, g1, e1, f1⟩ := bind_some ev
  obtain ⟨xs, g2, e2, f2⟩ := bind_some f1
  obtain ⟨e3, rfl⟩ := lift_some e2
  obtain ⟨ys, g3, e4, f3⟩ := bind_some f2
  cases pure_some f3
  refine ⟨F, g, x, g2, st, e1, fun v H1 F1 x1 r1 => ?_⟩
  obtain ⟨a, ws, rfl, h1, h2⟩ := items_of x1.st.same r1.cur e3
  exact ⟨a, ws, rfl, by rw [hK]; exact h1, F1, g2, ys, g', x1.st, e4, fun vs H2 F2 x2 r2 => q _ H2 F2 (x1.trans x2) ((Reps.mono x2.x.mono h2).append r2)⟩
theorem pa_kept_nil : PA X [] (GoA W (RL W) (evKept gl cl [])) := by
  refine pa_nil.mono' ?_
  rintro σ H Q ⟨F, g, ts, g', st, ev, q⟩
  simp only [evKept] at ev
  cases pure_some ev
  exact q [] H F (.refl st) .nil
theorem pa_kept_cons {e : Expr} {es : List Expr} {c : CE} {cs : List CE} (ns : notStar e = true) (h : Sd W gl cl X e c) (hr : PA X es (GoA W (RL W) (evKept gl cl cs))) : PA X (e :: es) (GoA W (RL W) (evKept gl cl (c :: cs))) := by
  refine (pa_cons h.kept hr (star_no ns)).mono' ?_
  rintro σ H Q ⟨F, g, ts, g', st, ev, q⟩
  simp only [evKept] at ev
  obtain ⟨x, g1, e1, f1⟩ := bind_some ev
  obtain ⟨xs, g2, e2, f2⟩ := bind_some f1
  cases pure_some f2
  exact ⟨F, g, x, g1, st, e1, fun v H1 F1 x1 r1 => ⟨F1, g1, xs, g', x1.st, e2, fun vs H2 F2 x2 r2 => q _ H2 F2 (x1.trans x2) (Reps.cons (r1.mono x2.x.mono) r2)⟩⟩
theorem Reps.curs {F H : Hp} {vs : List V} {ts : List T} (h : Reps W F vs ts) : Curs W H F vs ts := by
  induction ts generalizing vs with
  | nil => cases h; exact .nil
  | cons t ts ih => cases h with | cons a b => exact .cons (.rep a) (ih b)
/-- a built-in's arguments -/
theorem pa_blt1 {e : Expr} {c : CE} (ns : notStar e = true) (h : Sd W gl cl X e c) : PA X [e] (GoA W (fun _ H' F' ts vs => Curs W H' F' vs ts) (evBlt gl cl [c])) := by
  refine (pa_cons h.pe pa_nil (star_no ns)).mono' ?_
  rintro σ H Q ⟨F, g, ts, g', st, ev, q⟩
  simp only [evBlt] at ev
  obtain ⟨x, g1, e1, f1⟩ := bind_some ev
  cases pure_some f1
  exact ⟨F, g, x, g', st, e1, fun v H1 F1 x1 r1 => q _ H1 F1 x1 (.cons r1.cur .nil)⟩
theorem pa_blt2 {e e2 : Expr} {es : List Expr} {c c2 : CE} {cs : List CE} (ns : notStar e = true) (h : Sd W gl cl X e c) (hr : PA X (e2 :: es) (GoA W (RL W) (evKept gl cl (c2 :: cs)))) :
    PA X (e :: e2 :: es) (GoA W (fun _ H' F' ts vs => Curs W H' F' vs ts) (evBlt gl cl (c :: c2 :: cs))) := by
  refine (pa_cons h.kept hr (star_no ns)).mono' ?_
  rintro σ H Q ⟨F, g, ts, g', st, ev, q⟩
  simp only [evBlt] at ev
  obtain ⟨x, g1, e1, f1⟩ := bind_some ev
  obtain ⟨xs, g2, e2, f2⟩ := bind_some f1
  cases pure_some f2
  exact ⟨F, g, x, g1, st, e1, fun v H1 F1 x1 r1 => ⟨F1, g1, xs, g', x1.st, e2, fun vs H2 F2 x2 r2 => q _ H2 F2 (x1.trans x2) (.cons (.rep (r1.mono x2.x.mono)) r2.curs)⟩⟩
/-! displays -/
theorem sd_tup {es : List Expr} {cs : List CE} {k : Nat} (h : PA X es (GoA W (RL W) (evL gl cl cs))) : Sd W gl cl X (.Tuple es k pos) (.tup cs) := by
  refine .of rfl ((pe_tup h).mono' ?_)
  rintro σ H Q ⟨F, g, r, g', st, ev, q⟩
  simp only [evX] at ev
  obtain ⟨ts, g1, e1, f1⟩ := bind_some ev
  obtain ⟨_, g2, e2, f2⟩ := bind_some f1
  obtain ⟨e3, rfl⟩ := ask_some e2
  cases pure_some f2
  refine ⟨F, g, ts, g', st, e1, fun vs H1 F1 x1 r1 => ⟨?_, fun p hp => ?_⟩⟩
  · rw [r1.length]; exact Nat.le_trans (of_decide_eq_true e3) lim_le
  · have o : Out W H1 F1 (false, T.tup ts) _ _ _ := .newTup x1.st.same hp r1
    exact q _ _ _ (x1.trans (o.exE x1.st)) (o.valX x1.x.dom rfl)
theorem sd_lst {es : List Expr} {cs : List CE} (h : PA X es (GoA W (RL W) (evL gl cl cs))) : Sd W gl cl X (.List es pos) (.lst cs) := by
  refine .of rfl ((pe_lst h).mono' ?_)
  rintro σ H Q ⟨F, g, r, g', st, ev, q⟩
  simp only [evX] at ev
  obtain ⟨ts, g1, e1, f1⟩ := bind_some ev
  obtain ⟨_, g2, e2, f2⟩ := bind_some f1
  obtain ⟨e3, rfl⟩ := ask_some e2
  cases pure_some f2
  refine ⟨F, g, ts, g', st, e1, fun vs H1 F1 x1 r1 => ⟨?_, fun p hp => ?_⟩⟩
  · rw [r1.length]; exact Nat.le_trans (of_decide_eq_true e3) lim_le
  · have o : Out W H1 F1 (true, T.lst ts) _ _ _ := .newOwn x1.st.same hp (.lst r1)
    exact q _ _ _ (x1.trans (o.exE x1.st)) (o.valX x1.x.dom rfl)
theorem sd_dnew {tk : Bool} : Sd W gl cl X (.Dict [] [] pos) (.dnew tk) := by
  cases tk with
  | false =>
    refine .of rfl (pe_dnewK.mono' ?_)
    rintro σ H Q ⟨F, g, r, g', st, ev, q⟩ p hp
    simp only [evX] at ev
    cases pure_some ev
    have o : Out W H F (true, T.dct false []) _ _ _ := .newOwn st.same hp (.dK .nil)
    exact q _ _ _ (o.exE st) (o.valX (fun a x h => ⟨x, h⟩) rfl)
  | true =>
    refine .of rfl (pe_dnewT.mono' ?_)
    rintro σ H Q ⟨F, g, r, g', st, ev, q⟩ p hp
    simp only [evX] at ev
    cases pure_some ev
    have o : Out W H F (true, T.dct true []) _ _ _ := .newOwn st.same hp (.dT .nil)
    exact q _ _ _ (o.exE st) (o.valX (fun a x h => ⟨x, h⟩) rfl)
theorem sd_blt {b : Blt} {ex : Expr} {es : List Expr} {cs : List CE} (hK : X.K = W.K) (hc : X.calm = true) (hx : ∀ {t : TA}, PA X es t → PE X ex (tCB (rBlt W b) t)) (h : PA X es (GoA W (fun _ H' F' ts vs => Curs W H' F' vs ts) (evBlt gl cl cs))) :
    Sd W gl cl X ex (.blt b cs) := by
  refine .of rfl ((hx h).mono' ?_)
  rintro σ H Q ⟨F, g, r, g', st, ev, q⟩
  simp only [evX] at ev
  obtain ⟨ts, g1, e1, f1⟩ := bind_some ev
  obtain ⟨e2, rfl⟩ := lift_some f1
  exact ⟨F, g, ts, g', st, e1, fun vs H1 F1 x1 r1 => ⟨F1, ts, r, x1.st.same, r1, e2, fun w H2 F2 o => q _ _ _ (x1.trans (o.exE x1.st)) (o.valX x1.x.dom rfl)⟩⟩
/-! and, or as values -/
def RB : Hp → Hp → Hp → Bool → V → Prop := fun _ _ _ b v => v = .bl b
theorem bl_of {t : T} {b : Bool} (h : t.bl? = some b) : t = .bl b := by
  cases t <;> simp [T.bl?] at h
  rw [h]
theorem pe_and1 {e : Expr} {c : CE} {o : BoolOp} (h : Sd W gl cl X e c) : PE X (.BoolOp o [e] pos) (Go W RB (evAnd gl cl [c])) := by
  refine (pe_one h.pe).mono' ?_
  rintro σ H Q ⟨F, g, r, g', st, ev, q⟩
  simp only [evAnd] at ev
  obtain ⟨x, g1, e1, f1⟩ := bind_some ev
  obtain ⟨e2, rfl⟩ := lift_some f1
  refine ⟨F, g, x, g', st, e1, fun v H1 F1 x1 r1 => q _ H1 F1 x1 ?_⟩
  have c := r1.cur
  rw [bl_of e2] at c
  exact c.bl_inv
theorem pe_or1 {e : Expr} {c : CE} {o : BoolOp} (h : Sd W gl cl X e c) : PE X (.BoolOp o [e] pos) (Go W RB (evOr gl cl [c])) := by
  refine (pe_one h.pe).mono' ?_
  rintro σ H Q ⟨F, g, r, g', st, ev, q⟩
  simp only [evOr] at ev
  obtain ⟨x, g1, e1, f1⟩ := bind_some ev
  obtain ⟨e2, rfl⟩ := lift_some f1
  refine ⟨F, g, x, g', st, e1, fun v H1 F1 x1 r1 => q _ H1 F1 x1 ?_⟩
  have c := r1.cur
  rw [bl_of e2] at c
  exact c.bl_inv
theorem pe_andC {e e2 : Expr} {es : List Expr} {c c2 : CE} {cs : List CE} (h : Sd W gl cl X e c) (hr : PE X (.BoolOp .And (e2 :: es) pos) (Go W RB (evAnd gl cl (c2 :: cs)))) : PE X (.BoolOp .And (e :: e2 :: es) pos) (Go W RB (evAnd gl cl (c :: c2 :: cs))) := by
  refine (pe_and h.pe hr).mono' ?_
  rintro σ H Q ⟨F, g, r, g', st, ev, q⟩
  have ev' : (do let x ← evX gl cl c; let b ← lift x.2.bl?; if b then evAnd gl cl (c2 :: cs) else M.pure false : M Bool) g = some (r, g') := by simpa only [evAnd] using ev
  obtain ⟨x, g1, e1, f1⟩ := bind_some ev'
  obtain ⟨b, g2, e3, f2⟩ := bind_some f1
  obtain ⟨e4, rfl⟩ := lift_some e3
  refine ⟨F, g, x, g2, st, e1, fun v H1 F1 x1 r1 => ⟨b, ?_, ?_⟩⟩
  · have c := r1.cur
    rw [bl_of e4] at c
    exact c.bl_inv
  · cases b with
    | true => exact ⟨F1, g2, r, g', x1.st, f2, fun w H2 F2 x2 r2 => q w H2 F2 (x1.trans x2) r2⟩
    | false => cases pure_some f2; exact q _ H1 F1 x1 rfl
theorem pe_orC {e e2 : Expr} {es : List Expr} {c c2 : CE} {cs : List CE} (h : Sd W gl cl X e c) (hr : PE X (.BoolOp .Or (e2 :: es) pos) (Go W RB (evOr gl cl (c2 :: cs)))) : PE X (.BoolOp .Or (e :: e2 :: es) pos) (Go W RB (evOr gl cl (c :: c2 :: cs))) := by
  refine (pe_or h.pe hr).mono' ?_
  rintro σ H Q ⟨F, g, r, g', st, ev, q⟩
  have ev' : (do let x ← evX gl cl c; let b ← lift x.2.bl?; if b then M.pure true else evOr gl cl (c2 :: cs) : M Bool) g = some (r, g') := by simpa only [evOr] using ev
  obtain ⟨x, g1, e1, f1⟩ := bind_some ev'
  obtain ⟨b, g2, e3, f2⟩ := bind_some f1
  obtain ⟨e4, rfl⟩ := lift_some e3
  refine ⟨F, g, x, g2, st, e1, fun v H1 F1 x1 r1 => ⟨b, ?_, ?_⟩⟩
  · have c := r1.cur
    rw [bl_of e4] at c
    exact c.bl_inv
  · cases b with
    | false => exact ⟨F1, g2, r, g', x1.st, f2, fun w H2 F2 x2 r2 => q w H2 F2 (x1.trans x2) r2⟩
    | true => cases pure_some f2; exact q _ H1 F1 x1 rfl
theorem sd_and {ex : Expr} {cs : List CE} (h : PE X ex (Go W RB (evAnd gl cl cs))) : Sd W gl cl X ex (.and cs) := by
  refine .of rfl (h.mono' ?_)
  rintro σ H Q ⟨F, g, r, g', st, ev, q⟩
  simp only [evX] at ev
  obtain ⟨b, g1, e1, f1⟩ := bind_some ev
  cases pure_some f1
  refine ⟨F, g, b, g', st, e1, fun v H1 F1 x1 r1 => ?_⟩
  cases r1
  exact q _ H1 F1 x1 (.rep rfl (.bl _))
theorem sd_or {ex : Expr} {cs : List CE} (h : PE X ex (Go W RB (evOr gl cl cs))) : Sd W gl cl X ex (.or cs) := by
  refine .of rfl (h.mono' ?_)
  rintro σ H Q ⟨F, g, r, g', st, ev, q⟩
  simp only [evX] at ev
  obtain ⟨b, g1, e1, f1⟩ := bind_some ev
  cases pure_some f1
  refine ⟨F, g, b, g', st, e1, fun v H1 F1 x1 r1 => ?_⟩
  cases r1
  exact q _ H1 F1 x1 (.rep rfl (.bl _))
/-! tests -/
def GoT (W : Wd) (f : M Bool) : TT := fun σ H Q => ∃ F g b g', Sta W σ H F g ∧ f g = some (b, g') ∧ ∀ H' F', ExE W σ H F g H' F' g' → Q b H'
/-- a test of the text and its core form -/
def St (W : Wd) (gl : String → Option T) (cl : Cl) (X : Cx) (ex : Expr) (e : CE) : Prop := PT X ex (GoT W (evT gl cl e))
def plainTest : Expr → Bool
  | .UnaryOp .Not _ _ => false
  | .BoolOp _ _ _ => false
  | .IfExp _ _ _ _ => false
  | .Compare _ _ _ _ => false
  | _ => true
theorem st_plain {ex : Expr} {e : CE} (hK : X.K = W.K) (p : plainTest ex = true) (h : Sd W gl cl X ex e) : St W gl cl X ex e := by
  have he : ∀ whole, isTrue ex X.env whole = (do let v ← whole; standAt ex.pos; holding [v] (truthy v)) := by
    intro whole
    cases ex with
    | UnaryOp o _ _ => cases o <;> first | rfl | cases p
    | BoolOp _ _ _ => cases p
    | IfExp _ _ _ _ => cases p
    | Compare _ _ _ _ => cases p
    | _ => rfl
  refine (pt_truth h.pe he).mono' ?_
  rintro σ H Q ⟨F, g, b, g', st, ev, q⟩
  obtain ⟨x, g1, e1, f1⟩ := bind_some ev
  obtain ⟨e2, rfl⟩ := lift_some f1
  exact ⟨F, g, x, g', st, e1, fun v H1 F1 x1 r1 => ⟨b, by rw [hK]; exact r1.cur.truth x1.st.same e2, q H1 F1 x1⟩⟩
/-- a test whose value is a truth value -/
theorem st_of {ex : Expr} {e : CE} {t : TE} (h : PT X ex (tTest t)) (k : ∀ σ H Q, tX W gl cl e σ H Q → t σ H Q) (bl : ∀ g r g', evX gl cl e g = some (r, g') → ∃ b, r = (false, .bl b)) (ne : e.isVar = false) : St W gl cl X ex e := by
  refine h.mono' ?_
  rintro σ H Q ⟨F, g, b, g', st, ev, q⟩
  obtain ⟨x, g1, e1, f1⟩ := bind_some ev
  obtain ⟨e2, rfl⟩ := lift_some f1
  refine k σ H _ ⟨F, g, x, g', st, e1, fun v H1 F1 x1 r1 => ?_⟩
  obtain ⟨b', rfl⟩ := bl _ _ _ e1
  cases e2
  have c := r1.cur
  exact ⟨b, c.bl_inv, q H1 F1 x1⟩
end
end PV

/-! PV13: members, places, slices, attributes, choices -/
namespace PV
open PySem PySem.Spec PyProof.Rows L2
section
variable {W : Wd} {gl : String → Option T} {cl : Cl} {X : Cx} {pos : Pos}
def isSeqT : T → Bool
  | .dct _ _ => false
  | _ => true
def rMem (W : Wd) (neg : Bool) : R2 := fun v u H Q => ∃ F x y k, Same F H ∧ Rep W F v x ∧ Cur W H F u y ∧ isSeqT y = true ∧ mem2 x y = some k ∧ Q (.bl (if neg then !k else k)) H
theorem mem_data {F H : Hp} {v u : V} {x y : T} {k : Bool} (sm : Same F H) (hx : Rep W F v x) (h : Cur W H F u y) (sq : isSeqT y = true) (e : mem2 x y = some k) :
    ∃ d ds, Dp W.K H v d ∧ (Dp W.K H u (.list ds) ∨ Dp W.K H u (.tuple ds)) ∧ SeqAt.shaped d = true ∧ PyData.canLayAll0 ds = true ∧ (ds.any fun z => PyData.eqv z d) = k := by
  have all : ∀ {xs : List T}, x.plain deep = true → T.plains deep xs = true → ((toDs xs).any fun z => PyData.eqv z (toD x)) = (xs.any fun y => y.eq x) := by
    intro xs px ps
    induction xs with
    | nil => simp [toDs]
    | cons y ys ih =>
      simp only [T.plains, Bool.and_eq_true] at ps
      simp only [toDs, List.any_cons]
      rw [eqv_eq ps.1 px, ih ps.2]
  cases y with
  | tup xs =>
    simp only [mem2] at e
    split at e
    · rename_i hp
      simp only [Bool.and_eq_true] at hp
      cases e
      obtain ⟨a, vs, rfl, h1, h2⟩ := h.tup_inv sm
      exact ⟨toD x, toDs xs, hx.dp sm hp.1, .inr (.tup (.of h1) (h2.dp sm hp.2)), plain_shaped hp.1, (plains_lay hp.2).1, all hp.1 hp.2⟩
    · cases e
  | lst xs =>
    simp only [mem2] at e
    split at e
    · rename_i hp
      simp only [Bool.and_eq_true] at hp
      cases e
      obtain ⟨a, vs, rfl, h1, h2⟩ := h.lst_inv sm
      exact ⟨toD x, toDs xs, hx.dp sm hp.1, .inl (.lst (.of h1) (h2.dp sm hp.2)), plain_shaped hp.1, (plains_lay hp.2).1, all hp.1 hp.2⟩
    · cases e
  | dct _ _ => cases sq
  | _ => simp [mem2] at e
theorem mem_ok (hK : X.K = W.K) (hu : X.A.units + 65 < cLine) : OpR X (compareOp .In) (rMem W false) := by
  intro pins s σ H x y v u Q I rx ry ⟨F, a, b, k, sm, ra, rb, sq, e, q⟩
  obtain ⟨d, ds, h1, h2, h3, h4, h5⟩ := mem_data sm ra rb sq e
  obtain ⟨as, k1⟩ := Dp.reads I d x v (by rw [hK]; exact h1) rx
  have room := room_in_shaped (A := X.A) (xs := ds) h3 hu
  rcases h2 with h2 | h2
  · obtain ⟨bs, k2⟩ := Dp.reads I _ y u (by rw [hK]; exact h2) ry
    exact SeqAt.in_list_reads k2 k1 h4 (SeqAt.canLay_of_shaped h3) room ⟨.bl _, H, I, rfl, by rw [h5]; exact q⟩
  · obtain ⟨bs, k2⟩ := Dp.reads I _ y u (by rw [hK]; exact h2) ry
    exact SeqAt.in_tuple_reads k2 k1 h4 (SeqAt.canLay_of_shaped h3) room ⟨.bl _, H, I, rfl, by rw [h5]; exact q⟩
theorem notMem_ok (hK : X.K = W.K) (hu : X.A.units + 65 < cLine) : OpR X (compareOp .NotIn) (rMem W true) := by
  intro pins s σ H x y v u Q I rx ry ⟨F, a, b, k, sm, ra, rb, sq, e, q⟩
  obtain ⟨d, ds, h1, h2, h3, h4, h5⟩ := mem_data sm ra rb sq e
  obtain ⟨as, k1⟩ := Dp.reads I d x v (by rw [hK]; exact h1) rx
  have room := room_in_shaped (A := X.A) (xs := ds) h3 hu
  rcases h2 with h2 | h2
  · obtain ⟨bs, k2⟩ := Dp.reads I _ y u (by rw [hK]; exact h2) ry
    exact SeqAt.notIn_list_reads k2 k1 h4 (SeqAt.canLay_of_shaped h3) room ⟨.bl _, H, I, rfl, by rw [h5]; exact q⟩
  · obtain ⟨bs, k2⟩ := Dp.reads I _ y u (by rw [hK]; exact h2) ry
    exact SeqAt.notIn_tuple_reads k2 k1 h4 (SeqAt.canLay_of_shaped h3) room ⟨.bl _, H, I, rfl, by rw [h5]; exact q⟩
/-- y in d: any dict -/
theorem mem_imp {a b : CE} : ∀ σ H Q, tX W gl cl (.mem a b false) σ H Q → tOp (rMem W false) (tK W gl cl a) (tX W gl cl b) σ H Q ∨ tDIn (tK W gl cl a) (tX W gl cl b) σ H Q := by
  rintro σ H Q ⟨F, g, r, g', st, ev, q⟩
  simp only [evX] at ev
  obtain ⟨x, g1, e1, f1⟩ := bind_some ev
  obtain ⟨y, g2, e2, f2⟩ := bind_some f1
  obtain ⟨k, g3, e3, f3⟩ := bind_some f2
  obtain ⟨e4, rfl⟩ := lift_some e3
  cases pure_some f3
  by_cases sq : isSeqT y.2 = true
  · refine .inl ⟨F, g, x, g1, st, e1, fun v H1 F1 x1 r1 => ⟨F1, g1, y, g', x1.st, e2, fun u H2 F2 x2 r2 => ⟨F2, x, y.2, k, x2.st.same, r1.mono x2.x.mono, r2.cur, sq, e4, ?_⟩⟩⟩
    exact q _ H2 F2 (x1.trans x2) (.rep rfl (.bl _))
  · refine .inr ⟨F, g, x, g1, st, e1, fun v H1 F1 x1 r1 => ⟨F1, g1, y, g', x1.st, e2, fun u H2 F2 x2 r2 => ?_⟩⟩
    have c := r2.cur
    cases hy : y.2 with
    | dct tk kvs =>
      rw [hy] at c e4
      simp only [mem2] at e4
      split at e4
      · rename_i ok
        cases e4
        obtain ⟨p, o, rfl, dg, _, hm⟩ := dget_ok x2.st.same c (r1.mono x2.x.mono) ok
        refine ⟨p, o, rfl, dg, ?_⟩
        have e5 : o.isSome = (dget kvs x).isSome := by
          cases h : dget kvs x with
          | some t => rw [h] at hm; obtain ⟨w, rfl, _⟩ := hm; rfl
          | none => rw [h] at hm; rw [hm]; rfl
        rw [e5]
        exact q _ H2 F2 (x1.trans x2) (.rep rfl (.bl _))
      · cases e4
    | _ => rw [hy] at sq; exact absurd rfl sq
theorem notMem_imp {a b : CE} : ∀ σ H Q, tX W gl cl (.mem a b true) σ H Q → tOp (rMem W true) (tK W gl cl a) (tX W gl cl b) σ H Q ∨ tDNotIn (tK W gl cl a) (tX W gl cl b) σ H Q := by
  rintro σ H Q ⟨F, g, r, g', st, ev, q⟩
  simp only [evX] at ev
  obtain ⟨x, g1, e1, f1⟩ := bind_some ev
  obtain ⟨y, g2, e2, f2⟩ := bind_some f1
  obtain ⟨k, g3, e3, f3⟩ := bind_some f2
  obtain ⟨e4, rfl⟩ := lift_some e3
  cases pure_some f3
  by_cases sq : isSeqT y.2 = true
  · refine .inl ⟨F, g, x, g1, st, e1, fun v H1 F1 x1 r1 => ⟨F1, g1, y, g', x1.st, e2, fun u H2 F2 x2 r2 => ⟨F2, x, y.2, k, x2.st.same, r1.mono x2.x.mono, r2.cur, sq, e4, ?_⟩⟩⟩
    exact q _ H2 F2 (x1.trans x2) (.rep rfl (.bl _))
  · refine .inr ⟨F, g, x, g1, st, e1, fun v H1 F1 x1 r1 => ⟨F1, g1, y, g', x1.st, e2, fun u H2 F2 x2 r2 => ?_⟩⟩
    have c := r2.cur
    cases hy : y.2 with
    | dct tk kvs =>
      rw [hy] at c e4
      simp only [mem2] at e4
      split at e4
      · rename_i ok
        cases e4
        obtain ⟨p, o, rfl, dg, _, hm⟩ := dget_ok x2.st.same c (r1.mono x2.x.mono) ok
        refine ⟨p, o, rfl, dg, ?_⟩
        have e5 : o.isSome = (dget kvs x).isSome := by
          cases h : dget kvs x with
          | some t => rw [h] at hm; obtain ⟨w, rfl, _⟩ := hm; rfl
          | none => rw [h] at hm; rw [hm]; rfl
        rw [e5]
        exact q _ H2 F2 (x1.trans x2) (.rep rfl (.bl _))
      · cases e4
    | _ => rw [hy] at sq; exact absurd rfl sq
def noSet : Expr → Bool
  | .Set _ _ _ => false
  | _ => true
theorem marks_no {b : Expr} (h : noSet b = true) (op : CmpOp) : behindInMarks op b = false := by
  cases b <;> first | rfl | cases h
theorem sd_mem {a b : Expr} {ca cb : CE} (hK : X.K = W.K) (hu : X.A.units + 65 < cLine) (ns : noSet b = true) (ha : Sd W gl cl X a ca) (hb : Sd W gl cl X b cb) : Sd W gl cl X (.Compare a [.In] [b] pos) (.mem ca cb false) :=
  .of rfl (((pe_cmpR (mem_ok hK hu) ha.kept hb.pe (marks_no ns _)).or' (pe_cmp (pc_din (by omega) ha.kept hb.pe) (marks_no ns _))).mono' mem_imp)
theorem sd_notMem {a b : Expr} {ca cb : CE} (hK : X.K = W.K) (hu : X.A.units + 65 < cLine) (ns : noSet b = true) (ha : Sd W gl cl X a ca) (hb : Sd W gl cl X b cb) : Sd W gl cl X (.Compare a [.NotIn] [b] pos) (.mem ca cb true) :=
  .of rfl (((pe_cmpR (notMem_ok hK hu) ha.kept hb.pe (marks_no ns _)).or' (pe_cmp (pc_dnotin (by omega) ha.kept hb.pe) (marks_no ns _))).mono' notMem_imp)
/-! ### places -/
def noSlice : Expr → Bool
  | .Slice _ _ _ _ => false
  | _ => true
theorem plainIx {b : Expr} (h : noSlice b = true) : PlainIx b := by
  intro o i
  cases b <;> first | rfl | cases h
/-- the owner of a look: what it is by the end -/
def RPre (W : Wd) (e : CE) (σ : Sl) (F : Hp) (x : T) (v : V) : Prop := match e with
  | .var j => σ[j]? = some (some v)
  | _ => Rep W F v x
def tPre (W : Wd) (gl : String → Option T) (cl : Cl) (e : CE) : TE := fun σ H Q => ∃ F g x g', Sta W σ H F g ∧ pre e (evX gl cl e) g = some (x, g') ∧ ∀ v H' F', ExE W σ H F g H' F' g' → RPre W e σ F' x v ∧ Cur W H' F' v x → Q v H'
theorem Sd.pre {ex : Expr} {e : CE} (h : Sd W gl cl X ex e) : PE X ex (tPre W gl cl e) := by
  by_cases hv : e.isVar = true
  · obtain ⟨i, rfl⟩ : ∃ i, e = .var i := by cases e <;> first | exact ⟨_, rfl⟩ | cases hv
    have hp := h.var i rfl
    refine hp.mono' ?_
    rintro σ H Q ⟨F, g, x, g', st, ev, q⟩
    obtain ⟨rfl, s, e2, e3⟩ := peek_some ev
    obtain ⟨v, h1, h2⟩ := st.look e2 e3
    exact ⟨v, h1, q v H F (.refl st) ⟨h1, h2⟩⟩
  · refine h.kept.mono' ?_
    rintro σ H Q ⟨F, g, t, g', st, ev, q⟩
    refine ⟨F, g, t, g', st, ?_, fun v H1 F1 x1 r1 => q v H1 F1 x1 ⟨?_, .rep r1⟩⟩
    · cases e <;> first | exact ev | exact absurd rfl hv
    · cases e <;> first | exact r1 | exact absurd rfl hv
/-- .. at the end -/
theorem post_cur {e : CE} {σ : Sl} {H F H1 F1 : Hp} {g g1 g2 : G} {x t : T} {v : V} (r : RPre W e σ F x v) (x1 : Ext W σ H F g σ H1 F1 g1) (h : post e x g1 = some (t, g2)) : g2 = g1 ∧ Cur W H1 F1 v t := by
  cases e with
  | var i =>
    obtain ⟨e1, s, e2, e3⟩ := peek_some h
    obtain ⟨v', h1, h2⟩ := x1.st.look e2 e3
    have : some (some v) = some (some v') := (show σ[i]? = some (some v) from r).symm.trans h1
    cases this
    exact ⟨e1, h2⟩
  | _ => cases h; exact ⟨rfl, .rep (Rep.mono x1.mono r)⟩
theorem ix_imp {a i : CE} : ∀ σ H Q, tX W gl cl (.ix a i) σ H Q → tOp (fun x y H Q => rIxL W.K x y H Q ∨ rIxT W.K x y H Q) (tPre W gl cl a) (tK W gl cl i) σ H Q ∨ tDGet (tPre W gl cl a) (tK W gl cl i) σ H Q := by
  rintro σ H Q ⟨F, g, r, g', st, ev, q⟩
  simp only [evX] at ev
  obtain ⟨x0, g1, e1, f1⟩ := bind_some ev
  obtain ⟨k, g2, e2, f2⟩ := bind_some f1
  obtain ⟨x, g3, e3, f3⟩ := bind_some f2
  obtain ⟨t, g4, e4, f4⟩ := bind_some f3
  obtain ⟨e5, rfl⟩ := lift_some e4
  cases pure_some f4
  by_cases sq : isSeqT x = true
  · refine .inl ⟨F, g, x0, g1, st, e1, fun v H1 F1 x1 r1 => ⟨F1, g1, k, g2, x1.st, e2, fun u H2 F2 x2 r2 => ?_⟩⟩
    obtain ⟨rfl, c⟩ := post_cur r1.1 x2.x e3
    have fin : ∀ w, Rep W F2 w t → Q w H2 := fun w rw' => q w H2 F2 (x1.trans x2) (.rep rfl rw')
    cases x with
    | tup xs =>
      cases k with
      | int n =>
        obtain ⟨p, vs, rfl, h1, h2⟩ := c.tup_inv x2.st.same
        obtain ⟨w, k1, k2⟩ := getAt_atI h2 e5
        exact .inr ⟨p, vs, n, w, rfl, r2.int_inv, .of h1, k1, fin w k2⟩
      | _ => simp [ix2] at e5
    | lst xs =>
      cases k with
      | int n =>
        obtain ⟨p, vs, rfl, h1, h2⟩ := c.lst_inv x2.st.same
        obtain ⟨w, k1, k2⟩ := getAt_atI h2 e5
        exact .inl ⟨p, vs, n, w, rfl, r2.int_inv, .of h1, k1, fin w k2⟩
      | _ => simp [ix2] at e5
    | dct _ _ => cases sq
    | _ => simp [ix2] at e5
  · refine .inr ⟨F, g, x0, g1, st, e1, fun v H1 F1 x1 r1 => ⟨F1, g1, k, g2, x1.st, e2, fun u H2 F2 x2 r2 => ?_⟩⟩
    obtain ⟨rfl, c⟩ := post_cur r1.1 x2.x e3
    cases x with
    | dct tk kvs =>
      simp only [ix2] at e5
      split at e5
      · rename_i ok
        obtain ⟨p, o, rfl, dg, _, hm⟩ := dget_ok x2.st.same c r2 ok
        rw [e5] at hm
        obtain ⟨w, rfl, k2⟩ := hm
        exact ⟨p, w, rfl, dg, q w H2 F2 (x1.trans x2) (.rep rfl k2)⟩
      · cases e5
    | _ => exact absurd rfl sq
theorem sd_ix {a b : Expr} {ca cb : CE} (hK : X.K = W.K) (hu : X.A.units + 65 < cLine) (ns : noSlice b = true) (ha : Sd W gl cl X a ca) (hb : Sd W gl cl X b cb) : Sd W gl cl X (.Subscript a b pos) (.ix ca cb) := by
  have h1 : PE X (.Subscript a b pos) (tOp (fun x y H Q => rIxL W.K x y H Q ∨ rIxT W.K x y H Q) (tPre W gl cl ca) (tK W gl cl cb)) := by
    rw [← hK]
    exact pe_ix (ix_list.or ix_tup) ha.pre hb.kept (plainIx ns)
  exact .of rfl ((h1.or' (pe_dget (by omega) ha.pre hb.kept (plainIx ns))).mono' ix_imp)
/-! ### slices -/
/-- a slice's end -/
def tPt (W : Wd) (gl : String → Option T) (cl : Cl) (es : List CE) : TO := fun σ H Q => ∃ F g o g', Sta W σ H F g ∧ evPart gl cl es g = some (o, g') ∧ ∀ H' F', ExE W σ H F g H' F' g' → Q o H'
theorem _root_.L2.PO.mono' {e : Option Expr} {t t' : TO} (h : PO X e t) (m : ∀ σ H Q, t' σ H Q → t σ H Q) : PO X e t' := ⟨fun pins s σ H Q I q => h.run pins s σ H Q I (m σ H Q q)⟩
theorem po_absent : PO X none (tPt W gl cl []) := by
  refine po_none.mono' ?_
  rintro σ H Q ⟨F, g, o, g', st, ev, q⟩
  simp only [evPart] at ev
  cases pure_some ev
  exact q H F (.refl st)
theorem int_of {t : T} {b : Int} (h : t.int? = some b) : t = .int b := by
  cases t <;> simp [T.int?] at h
  rw [h]
theorem po_part {e : Expr} {c : CE} (h : Sd W gl cl X e c) : PO X (some e) (tPt W gl cl [c]) := by
  refine (po_some h.pe).mono' ?_
  rintro σ H Q ⟨F, g, o, g', st, ev, q⟩
  simp only [evPart] at ev
  obtain ⟨x, g1, e1, f1⟩ := bind_some ev
  obtain ⟨i, g2, e2, f2⟩ := bind_some f1
  obtain ⟨e3, rfl⟩ := lift_some e2
  cases pure_some f2
  refine ⟨F, g, x, g', st, e1, fun v H1 F1 x1 r1 => ?_⟩
  have c := r1.cur
  rw [int_of e3] at c
  exact ⟨i, c.int_inv, q H1 F1 x1⟩
theorem SlR.or' {r r' : V → Option Int → Option Int → Hp → VK → Prop} (h : SlR X r) (h' : SlR X r') : SlR X (fun x l u H Q => r x l u H Q ∨ r' x l u H Q) := by
  intro pins s σ H x v vl vu lo hi sl Q I rx hs pl pu q
  rcases q with q | q
  · exact h pins s σ H x v vl vu lo hi sl Q I rx hs pl pu q
  · exact h' pins s σ H x v vl vu lo hi sl Q I rx hs pl pu q
theorem slice_imp {a : CE} {lo hi : List CE} : ∀ σ H Q, tX W gl cl (.slice a lo hi) σ H Q → tSl (fun x l u H Q => rSlL W.K x l u H Q ∨ rSlA W.K x l u H Q) (tPre W gl cl a) (tPt W gl cl lo) (tPt W gl cl hi) σ H Q := by
  rintro σ H Q ⟨F, g, r, g', st, ev, q⟩
  simp only [evX] at ev
  obtain ⟨x0, g1, e1, f1⟩ := bind_some ev
  obtain ⟨l, g2, e2, f2⟩ := bind_some f1
  obtain ⟨u, g3, e3, f3⟩ := bind_some f2
  obtain ⟨x, g4, e4, f4⟩ := bind_some f3
  obtain ⟨e5, rfl⟩ := lift_some f4
  refine ⟨F, g, x0, g1, st, e1, fun v H1 F1 x1 r1 => ⟨F1, g1, l, g2, x1.st, e2, fun H2 F2 x2 => ⟨F2, g2, u, g3, x2.st, e3, fun H3 F3 x3 => ?_⟩⟩⟩
  have x23 := x2.trans x3
  obtain ⟨rfl, c⟩ := post_cur r1.1 x23.x e4
  have x13 := x1.trans x23
  cases x with
  | lst xs =>
    obtain ⟨p, vs, rfl, h1, h2⟩ := c.lst_inv x3.st.same
    refine .inl ⟨p, vs, rfl, .of h1, fun p' hp => ?_⟩
    simp only [slice2, Option.some.injEq] at e5
    subst e5
    have o : Out W H3 F3 (true, T.lst _) _ _ _ := .newOwn x3.st.same hp (.lst ((h2.drop (HT.sIx vs.length 0 l)).take (HT.sIx vs.length vs.length u - HT.sIx vs.length 0 l)))
    refine q _ _ _ (x13.trans (o.exE x3.st)) ?_
    have := o.valX (e := .slice a lo hi) x13.x.dom rfl
    simp only [cut_sIx, ← h2.length]
    exact this
  | tup xs =>
    obtain ⟨p, vs, rfl, h1, h2⟩ := c.tup_inv x3.st.same
    simp only [slice2, Option.some.injEq, cut_sIx, ← h2.length] at e5
    subst e5
    refine .inr ⟨p, vs, rfl, .of h1, fun hw => ?_, fun hw p' hp => ?_⟩
    · refine q _ H3 F3 x13 (.rep rfl ?_)
      rw [hw.1, hw.2]
      have e : (xs.drop 0).take (vs.length - 0) = xs := by rw [List.drop_zero, Nat.sub_zero, h2.length, List.take_length]
      rw [e]
      cases c with
      | rep c => exact c
      | here _ c => cases c
    · have o : Out W H3 F3 (false, T.tup _) _ _ _ := .newTup x3.st.same hp ((h2.drop (HT.sIx vs.length 0 l)).take (HT.sIx vs.length vs.length u - HT.sIx vs.length 0 l))
      exact q _ _ _ (x13.trans (o.exE x3.st)) (o.valX (e := .slice a lo hi) x13.x.dom rfl)
  | _ => simp [slice2] at e5
theorem sd_slice {a : Expr} {l u : Option Expr} {ca : CE} {cl' cu : List CE} {p2 : Pos} (hK : X.K = W.K) (ha : Sd W gl cl X a ca) (hl : PO X l (tPt W gl cl cl')) (hu : PO X u (tPt W gl cl cu)) : Sd W gl cl X (.Subscript a (.Slice l u none p2) pos) (.slice ca cl' cu) := by
  have h1 : PE X (.Subscript a (.Slice l u none p2) pos) (tSl (fun x l u H Q => rSlL W.K x l u H Q ∨ rSlA W.K x l u H Q) (tPre W gl cl ca) (tPt W gl cl cl') (tPt W gl cl cu)) := by
    rw [← hK]
    exact pe_slice (SlR.or' sl_list sl_tupA) ha.pre hl hu
  exact .of rfl (h1.mono' slice_imp)
/-! ### a if c else b -/
theorem sd_ite {c a b : Expr} {cc ca cb : CE} (hc : PV.St W gl cl X c cc) (ha : Sd W gl cl X a ca) (hb : Sd W gl cl X b cb) : Sd W gl cl X (.IfExp c a b pos) (.ite cc ca cb) := by
  refine .of rfl ((pe_ifExp hc ha.kept hb.kept).mono' ?_)
  rintro σ H Q ⟨F, g, r, g', st, ev, q⟩
  simp only [evX] at ev
  obtain ⟨x, g1, e1, f1⟩ := bind_some ev
  obtain ⟨k, g2, e2, f2⟩ := bind_some f1
  obtain ⟨e3, rfl⟩ := lift_some e2
  refine ⟨F, g, k, g2, st, ?_, fun H1 F1 x1 => ?_⟩
  · exact (bind_of e1).trans e2
  · cases k with
    | true =>
      rw [if_pos rfl] at f2 ⊢
      obtain ⟨t, g3, e4, f3⟩ := bind_some f2
      cases pure_some f3
      exact ⟨F1, g2, t, g', x1.st, e4, fun v H2 F2 x2 r2 => q v H2 F2 (x1.trans x2) (.rep rfl r2)⟩
    | false =>
      rw [if_neg (by simp)] at f2 ⊢
      obtain ⟨t, g3, e4, f3⟩ := bind_some f2
      cases pure_some f3
      exact ⟨F1, g2, t, g', x1.st, e4, fun v H2 F2 x2 r2 => q v H2 F2 (x1.trans x2) (.rep rfl r2)⟩
end
end PV

/-! PV14: attributes, kinds, tests -/
namespace PV
open PySem PySem.Spec PyProof.Rows L2
/-- what is asked of an own class -/
structure ClsOk (K : PySem.W.Frag) (flds : List String) (C : Addr) : Prop where
  ins : C8.InsC K C
  kc : ((PySem.W.clsIn K C).isSome && PySem.W.typeIn K (.ref C) == some (.type "type")) = true
  mro : (PySem.W.clsIn K C).map (·.mro) = some [.ref C, .type "object"]
  noat : ∀ f ∈ flds, NoAttr K C (Str.ofString f)
/-- the classes of the text -/
structure Clss (W : Wd) (flds : List String) : Prop where
  ok : ∀ c C, W.cA c = some C → ClsOk W.K flds C
  inj : ∀ c d C, W.cA c = some C → W.cA d = some C → c = d
section
variable {W : Wd} {gl : String → Option T} {cl : Cl} {X : Cx} {pos : Pos}
theorem RepF.lookup {F : Hp} {fs : List (Str × V)} {gs : List (String × T)} {f : String} {t : T} (h : RepF W F fs gs) (e : gs.lookup f = some t) : ∃ v, fs.lookup (Str.ofString f) = some v ∧ Rep W F v t := by
  induction gs generalizing fs with
  | nil => simp at e
  | cons p r ih =>
    cases h with
    | @cons f' v fs' t' gs' a b =>
      rw [List.lookup_cons] at e ⊢
      rw [str_beq]
      cases q : (f == f') with
      | true => rw [q] at e; simp at e; subst e; exact ⟨v, rfl, a⟩
      | false => rw [q] at e; exact ih b e
def noCall0 : Expr → Bool
  | .Call (.Name _ _) [] [] _ => false
  | _ => true
theorem attrBase {e : Expr} {f : Str} {env : Env} {w : Sem Value} (h : noCall0 e = true) : attributeBase e f env w = w := by
  unfold attributeBase
  split
  · cases h
  · rfl
theorem sd_attr {e : Expr} {c : CE} {f : String} {flds : List String} (hK : X.K = W.K) (C : Clss W flds) (hf : f ∈ flds) (nc : noCall0 e = true) (h : Sd W gl cl X e c) : Sd W gl cl X (.Attribute e (Str.ofString f) pos) (.attr c f) := by
  refine .of rfl ((pe_fld h.pe (attrBase nc)).mono' ?_)
  rintro σ H Q ⟨F, g, r, g', st, ev, q⟩
  simp only [evX] at ev
  obtain ⟨x, g1, e1, f1⟩ := bind_some ev
  refine ⟨F, g, x, g1, st, e1, fun v H1 F1 x1 r1 => ?_⟩
  have k := r1.cur
  cases hx : x.2 with
  | ins c fs =>
    rw [hx] at k f1
    obtain ⟨t, g2, e2, f2⟩ := bind_some f1
    obtain ⟨e3, rfl⟩ := lift_some e2
    cases pure_some f2
    obtain ⟨a, D, dx, gs, rfl, hc, h1, h2⟩ := k.ins_inv x1.st.same
    obtain ⟨w, l, rw'⟩ := h2.lookup e3
    have co := C.ok _ _ hc
    exact ⟨a, D, dx, gs, w, rfl, h1, by rw [hK]; exact co.ins.cl, by rw [hK]; exact co.noat f hf, l, q w H1 F1 x1 (.rep rfl rw')⟩
  | _ => rw [hx] at f1; cases f1
/-! ### kinds -/
def tyV (W : Wd) : T → Value → Prop
  | .non, u => u = .type "NoneType"
  | .bl _, u => u = .type "bool"
  | .int _, u => u = .type "int"
  | .str _, u => u = .type "str"
  | .tup _, u => u = .type "tuple"
  | .lst _, u => u = .type "list"
  | .frl _, u => u = .type "list"
  | .dct _ _, u => u = .type "dict"
  | .ins c _, u => ∃ C, W.cA c = some C ∧ u = .ref C
theorem ty_of {flds : List String} (C : Clss W flds) {F H : Hp} {v : V} {t : T} (sm : Same F H) (c : Cur W H F v t) : ∃ u, tyV W t u ∧ TyX W.K H v u := by
  cases t with
  | non => rw [c.non_inv]; exact ⟨_, rfl, .base .non⟩
  | bl b => rw [c.bl_inv]; exact ⟨_, rfl, .base (.bl b)⟩
  | int b => rw [c.int_inv]; exact ⟨_, rfl, .base (.int b)⟩
  | str b => rw [c.str_inv]; exact ⟨_, rfl, .base (.str _)⟩
  | tup xs => obtain ⟨a, vs, rfl, h, _⟩ := c.tup_inv sm; exact ⟨_, rfl, .base (.tup h)⟩
  | lst xs => obtain ⟨a, vs, rfl, h, _⟩ := c.lst_inv sm; exact ⟨_, rfl, .base (.lst h)⟩
  | frl xs =>
    obtain ⟨a, vs, rfl, h, _⟩ := c.frl_inv sm
    rcases h with (h | ⟨o, h⟩) | ⟨o, _, _, h1, h2, _⟩
    · exact ⟨_, rfl, .base (.lst h)⟩
    · exact ⟨_, rfl, .base (.frz h)⟩
    · exact ⟨_, rfl, .kList h1 h2⟩
  | dct tk kvs =>
    cases tk with
    | true => obtain ⟨a, vs, rfl, h, _⟩ := c.dT_inv sm; exact ⟨_, rfl, .base (.dT h)⟩
    | false => obtain ⟨a, vs, rfl, h, _⟩ := c.dK_inv sm; exact ⟨_, rfl, .base (.dK h)⟩
  | ins d fs =>
    obtain ⟨a, D, dx, gs, rfl, hc, h1, h2⟩ := c.ins_inv sm
    have co := (C.ok _ _ hc).ins
    exact ⟨_, ⟨D, hc, rfl⟩, .base (.ins h1 co.cl co.ha co.hn co.htk co.hm)⟩
/-- a kind as a value -/
def Ty.val (W : Wd) : Ty → Value → V → Prop
  | .int, u, v => u = .type "int" ∧ v = .ty "int"
  | .bool, u, v => u = .type "bool" ∧ v = .ty "bool"
  | .str, u, v => u = .type "str" ∧ v = .ty "str"
  | .tuple, u, v => u = .type "tuple" ∧ v = .ty "tuple"
  | .list, u, v => u = .type "list" ∧ v = .ty "list"
  | .dict, u, v => u = .type "dict" ∧ v = .ty "dict"
  | .cls c, u, v => ∃ C, W.cA c = some C ∧ u = .ref C ∧ v = .ref C
theorem Ty.clsV {y : Ty} {u : Value} {v : V} (h : y.val W u v) : ClsV v u := by
  cases y with
  | cls c => obtain ⟨C, _, rfl, rfl⟩ := h; exact .own C
  | _ => obtain ⟨rfl, rfl⟩ := h; exact .ty _
def isTyV : Value → Bool
  | .type _ => true
  | _ => false
theorem noRef {l : List Value} {D : Addr} (h : l.all isTyV = true) : l.contains (.ref D) = false := by
  rw [List.contains_eq_any_beq, List.any_eq_false]
  intro x hx e
  have := List.all_eq_true.mp h x hx
  have e' : x = Value.ref D := (beq_iff_eq.mp e).symm
  subst e'
  cases this
theorem kit_cls {flds : List String} (C : Clss W flds) {c : String} {D : Addr} (hc : W.cA c = some D) {n : String} (hl : (PySem.fastBuiltinMro n).map (·.all isTyV) = some true) : PySem.W.kitOne W.K (.type n) (.ref D) = some false := by
  have co := C.ok _ _ hc
  unfold PySem.W.kitOne PySem.W.kitCls
  rw [if_neg (by simp)]
  simp only [co.kc, if_true]
  show (PySem.fastBuiltinMro n).map (·.contains (.ref D)) = some false
  cases h : PySem.fastBuiltinMro n with
  | none => rw [h] at hl; cases hl
  | some l =>
    rw [h] at hl
    simp only [Option.map_some, Option.some.injEq] at hl ⊢
    exact noRef hl
theorem kit_ins {flds : List String} (C : Clss W flds) {c : String} {D : Addr} (hc : W.cA c = some D) {n : String} (hm : PySem.W.kitMeta n = true) (hn : n ≠ "object") : PySem.W.kitOne W.K (.ref D) (.type n) = some false := by
  have co := C.ok _ _ hc
  unfold PySem.W.kitOne PySem.W.kitCls
  rw [if_neg (by simp)]
  simp only [hm, if_true]
  show (PySem.W.clsIn W.K D).bind (fun cd => if cd.mro.isEmpty then none else some (cd.mro.contains (.type n))) = _
  have m := co.mro
  cases hx : PySem.W.clsIn W.K D with
  | none => rw [hx] at m; cases m
  | some cd =>
    rw [hx] at m
    simp only [Option.map_some, Option.some.injEq] at m
    simp only [Option.bind_some, m]
    simp
    exact hn
theorem kit_any {flds : List String} (C : Clss W flds) {t : T} {y : Ty} {u c : Value} {v : V} (ht : tyV W t u) (hy : y.val W c v) : PySem.W.kitOne W.K u c = some (y.of t) := by
  have co : ∀ {d D}, W.cA d = some D → ClsOk W.K flds D := fun h => C.ok _ _ h
  cases y with
  | cls d =>
    obtain ⟨D, hd, rfl, rfl⟩ := hy
    cases t with
    | ins e fs =>
      obtain ⟨E, he, rfl⟩ := ht
      by_cases q : e = d
      · subst q
        rw [hd] at he; cases he
        rw [(co hd).ins.me]
        simp [Ty.of]
      · have ne : E ≠ D := fun z => q (C.inj _ _ _ he (by rw [z]; exact hd))
        unfold PySem.W.kitOne PySem.W.kitCls
        rw [if_neg (by simp; exact ne)]
        simp only [(co hd).kc, if_true]
        show (PySem.W.clsIn W.K E).bind (fun cd => if cd.mro.isEmpty then none else some (cd.mro.contains (.ref D))) = _
        have m := (co he).mro
        cases hx : PySem.W.clsIn W.K E with
        | none => rw [hx] at m; cases m
        | some cd =>
          rw [hx] at m
          simp only [Option.map_some, Option.some.injEq] at m
          simp only [Option.bind_some, m]
          have : (d == e) = false := beq_eq_false_iff_ne.mpr (fun z => q z.symm)
          simp [Ty.of, this]
          exact fun z => ne z.symm
    | non => cases ht; exact kit_cls C hd (by decide +kernel)
    | bl _ => cases ht; exact kit_cls C hd (by decide +kernel)
    | int _ => cases ht; exact kit_cls C hd (by decide +kernel)
    | str _ => cases ht; exact kit_cls C hd (by decide +kernel)
    | tup _ => cases ht; exact kit_cls C hd (by decide +kernel)
    | lst _ => cases ht; exact kit_cls C hd (by decide +kernel)
    | frl _ => cases ht; exact kit_cls C hd (by decide +kernel)
    | dct _ _ => cases ht; exact kit_cls C hd (by decide +kernel)
  | int =>
    obtain ⟨rfl, rfl⟩ := hy
    cases t with
    | ins e fs => obtain ⟨E, he, rfl⟩ := ht; exact kit_ins C he (by decide +kernel) (by decide)
    | _ => cases ht; first | exact kit_ty (r := true) (by decide +kernel) | exact kit_ty (r := false) (by decide +kernel)
  | bool =>
    obtain ⟨rfl, rfl⟩ := hy
    cases t with
    | ins e fs => obtain ⟨E, he, rfl⟩ := ht; exact kit_ins C he (by decide +kernel) (by decide)
    | _ => cases ht; first | exact kit_ty (r := true) (by decide +kernel) | exact kit_ty (r := false) (by decide +kernel)
  | str =>
    obtain ⟨rfl, rfl⟩ := hy
    cases t with
    | ins e fs => obtain ⟨E, he, rfl⟩ := ht; exact kit_ins C he (by decide +kernel) (by decide)
    | _ => cases ht; first | exact kit_ty (r := true) (by decide +kernel) | exact kit_ty (r := false) (by decide +kernel)
  | tuple =>
    obtain ⟨rfl, rfl⟩ := hy
    cases t with
    | ins e fs => obtain ⟨E, he, rfl⟩ := ht; exact kit_ins C he (by decide +kernel) (by decide)
    | _ => cases ht; first | exact kit_ty (r := true) (by decide +kernel) | exact kit_ty (r := false) (by decide +kernel)
  | list =>
    obtain ⟨rfl, rfl⟩ := hy
    cases t with
    | ins e fs => obtain ⟨E, he, rfl⟩ := ht; exact kit_ins C he (by decide +kernel) (by decide)
    | _ => cases ht; first | exact kit_ty (r := true) (by decide +kernel) | exact kit_ty (r := false) (by decide +kernel)
  | dict =>
    obtain ⟨rfl, rfl⟩ := hy
    cases t with
    | ins e fs => obtain ⟨E, he, rfl⟩ := ht; exact kit_ins C he (by decide +kernel) (by decide)
    | _ => cases ht; first | exact kit_ty (r := true) (by decide +kernel) | exact kit_ty (r := false) (by decide +kernel)
theorem isa_any {flds : List String} (C : Clss W flds) {t : T} {u : Value} (ht : tyV W t u) : ∀ {ys : List Ty} {cs : List Value} {vs : List V}, Paired (fun (y : Ty) (p : Value × V) => y.val W p.1 p.2) ys (cs.zip vs) → cs.length = vs.length → PySem.W.kitAny W.K u cs = some (isa2 t ys)
  | [], [], _, .nil, _ => rfl
  | [], _ :: _, [], _, h => by simp at h
  | y :: ys, c :: cs, v :: vs, .cons a b, h => by
    refine kitAny_cons (kit_any C ht a) (fun z => ?_) (fun z => ?_)
    · have ih := isa_any C ht b (by simpa using h)
      rw [ih]
      simp only [isa2, List.any_cons, z, Bool.false_or]
    · simp only [isa2, List.any_cons, z, Bool.true_or]
/-- the kinds of an isinstance -/
inductive TyE (X : Cx) (W : Wd) : Expr → Ty → Prop
  | mk {e : Expr} {y : Ty} {u : Value} {v : V} : PE X e (tC v) → y.val W u v → TyE X W e y
theorem sd_isa1 {ex a ty : Expr} {c : CE} {y : Ty} {flds : List String} (hK : X.K = W.K) (C : Clss W flds) (ns : notStar a = true) (ns2 : notStar ty = true) (hx : ∀ {t : TA}, PA X [a, ty] t → PE X ex (tCB (rIsi X.K) t)) (ha : Sd W gl cl X a c) (hy : TyE X W ty y) :
    Sd W gl cl X ex (.isa c [y]) := by
  obtain ⟨pt, hv⟩ := hy
  refine .of rfl ((hx (pa_cons ha.pe (pa_cons pt pa_nil (star_no ns2)) (star_no ns))).mono' ?_)
  rintro σ H Q ⟨F, g, r, g', st, ev, q⟩
  simp only [evX] at ev
  obtain ⟨x, g1, e1, f1⟩ := bind_some ev
  cases pure_some f1
  refine ⟨F, g, x, g', st, e1, fun v H1 F1 x1 r1 => ?_⟩
  obtain ⟨u, tu, tx⟩ := ty_of C x1.st.same r1.cur
  refine ⟨v, _, u, _, y.of x.2, rfl, (Ty.clsV hv), by rw [hK]; exact tx, by rw [hK]; exact kit_any C tu hv, ?_⟩
  have e : isa2 x.2 [y] = y.of x.2 := by simp [isa2]
  rw [e] at q
  exact q _ H1 F1 x1 (.rep rfl (.bl _))
inductive TyEs (X : Cx) (W : Wd) : List Expr → List Ty → Prop
  | nil : TyEs X W [] []
  | cons {e : Expr} {y : Ty} {es : List Expr} {ys : List Ty} : notStar e = true → TyE X W e y → TyEs X W es ys → TyEs X W (e :: es) (y :: ys)
theorem tys_pa {es : List Expr} {ys : List Ty} (h : TyEs X W es ys) : ∃ (cs : List Value) (vs : List V), cs.length = vs.length ∧ Paired (fun (y : Ty) (p : Value × V) => y.val W p.1 p.2) ys (cs.zip vs) ∧ Paired ClsV vs cs ∧ PA X es (fun _ H Q => Q vs H) := by
  induction h with
  | nil => exact ⟨[], [], rfl, .nil, .nil, pa_nil⟩
  | cons ns hy _ ih =>
    obtain ⟨cs, vs, h1, h2, h3, h4⟩ := ih
    obtain ⟨pt, hv⟩ := hy
    exact ⟨_ :: cs, _ :: vs, by simp [h1], .cons hv h2, .cons (Ty.clsV hv) h3, (pa_cons pt h4 (star_no ns)).mono' fun σ H Q q => q⟩
theorem sd_isaT {ex a : Expr} {es : List Expr} {k : Nat} {p : Pos} {c : CE} {ys : List Ty} {flds : List String} (hK : X.K = W.K) (C : Clss W flds) (ns : notStar a = true) (hx : ∀ {t : TA}, PA X [a, .Tuple es k p] t → PE X ex (tCB (rIsiT X.K) t)) (hz : es.length ≤ 100)
    (ha : Sd W gl cl X a c) (hy : TyEs X W es ys) : Sd W gl cl X ex (.isa c ys) := by
  obtain ⟨cs, vs, h1, h2, h3, h4⟩ := tys_pa hy
  have hl : vs.length ≤ sizeLine := by
    have e : ∀ {es : List Expr} {ys : List Ty}, TyEs X W es ys → es.length = ys.length := fun h => by
      induction h with
      | nil => rfl
      | cons _ _ _ ih => simp [ih]
    have e2 : ys.length = (cs.zip vs).length := Paired.length h2
    have e3 := e hy
    rw [List.length_zip, h1, Nat.min_self] at e2
    rw [sizeLine_eq]
    omega
  refine .of rfl ((hx (pa_cons ha.pe (pa_cons (pe_tup h4) pa_nil (star_no rfl)) (star_no ns))).mono' ?_)
  rintro σ H Q ⟨F, g, r, g', st, ev, q⟩
  simp only [evX] at ev
  obtain ⟨x, g1, e1, f1⟩ := bind_some ev
  cases pure_some f1
  refine ⟨F, g, x, g', st, e1, fun v H1 F1 x1 r1 => ⟨hl, fun tp hp => ?_⟩⟩
  have gr : Same H1 (upd H1 tp (.tup vs)) := upd_same_of hp
  have cur : Cur W (upd H1 tp (.tup vs)) F1 v x.2 := by
    cases r1.cur with
    | rep h => exact .rep h
    | here h k => exact .here (gr _ _ h) k
  obtain ⟨u, tu, tx⟩ := ty_of C (x1.st.same.trans gr) cur
  refine ⟨v, tp, vs, u, cs, isa2 x.2 ys, rfl, upd_same, h3, by rw [hK]; exact tx, by rw [hK]; exact isa_any C tu h2 h1, ?_⟩
  refine q _ _ F1 (x1.trans ⟨x1.st.grow gr (Same.refl _) (x1.st.same.trans gr) (fun a o h => .inl h), fun i t h => ⟨t, h⟩⟩) (.rep rfl (.bl _))
end
end PV

/-! PV15: tests; calls of own defs -/
namespace PV
open PySem PySem.Spec PyProof.Rows L2
section
variable {W : Wd} {gl : String → Option T} {cl : Cl} {X : Cx} {pos : Pos}
theorem _root_.L2.PT.or' {e : Expr} {t t' : TT} (h : PT X e t) (h' : PT X e t') : PT X e (fun σ H Q => t σ H Q ∨ t' σ H Q) := ⟨fun pins s σ H Q I q => by
  rcases q with q | q
  · exact h.run pins s σ H Q I q
  · exact h'.run pins s σ H Q I q⟩
theorem bl_cmp {o : Cm} {a b : CE} : ∀ g r g', evX gl cl (.cmp o a b) g = some (r, g') → ∃ b, r = (false, .bl b) := by
  intro g r g' ev
  simp only [evX] at ev
  obtain ⟨x, g1, e1, f1⟩ := bind_some ev
  obtain ⟨y, g2, e2, f2⟩ := bind_some f1
  obtain ⟨k, g3, e3, f3⟩ := bind_some f2
  cases pure_some f3
  exact ⟨k, rfl⟩
theorem bl_chain {o o' : Cm} {a b c : CE} : ∀ g r g', evX gl cl (.chain o o' a b c) g = some (r, g') → ∃ b, r = (false, .bl b) := by
  intro g r g' ev
  simp only [evX] at ev
  obtain ⟨x, g1, e1, f1⟩ := bind_some ev
  obtain ⟨y, g2, e2, f2⟩ := bind_some f1
  obtain ⟨k, g3, e3, f3⟩ := bind_some f2
  cases k with
  | true =>
    rw [if_pos rfl] at f3
    obtain ⟨z, g4, e5, f4⟩ := bind_some f3
    obtain ⟨k', g5, e6, f5⟩ := bind_some f4
    cases pure_some f5
    exact ⟨k', rfl⟩
  | false => cases pure_some f3; exact ⟨false, rfl⟩
theorem bl_isn {a : CE} {neg : Bool} : ∀ g r g', evX gl cl (.isn a neg) g = some (r, g') → ∃ b, r = (false, .bl b) := by
  intro g r g' ev
  simp only [evX] at ev
  obtain ⟨x, g1, e1, f1⟩ := bind_some ev
  cases pure_some f1
  exact ⟨_, rfl⟩
theorem bl_isb {a : CE} {b neg : Bool} : ∀ g r g', evX gl cl (.isb a b neg) g = some (r, g') → ∃ b, r = (false, .bl b) := by
  intro g r g' ev
  simp only [evX] at ev
  obtain ⟨x, g1, e1, f1⟩ := bind_some ev
  cases pure_some f1
  exact ⟨_, rfl⟩
theorem bl_mem {a b : CE} {neg : Bool} : ∀ g r g', evX gl cl (.mem a b neg) g = some (r, g') → ∃ b, r = (false, .bl b) := by
  intro g r g' ev
  simp only [evX] at ev
  obtain ⟨x, g1, e1, f1⟩ := bind_some ev
  obtain ⟨y, g2, e2, f2⟩ := bind_some f1
  obtain ⟨k, g3, e3, f3⟩ := bind_some f2
  cases pure_some f3
  exact ⟨_, rfl⟩
theorem st_cmp {o : Cm} {a b : Expr} {ca cb : CE} (hK : X.K = W.K) (hu : X.A.units + 65 < cLine) (ha : Sd W gl cl X a ca) (hb : Sd W gl cl X b cb) : PV.St W gl cl X (.Compare a [o.op] [b] pos) (.cmp o ca cb) :=
  st_of (pt_cmpR (cmp2_ok hK (by omega) o) ha.kept hb.kept (o.nomark b)) cmp_imp bl_cmp rfl
theorem st_chain {o o' : Cm} {a b c : Expr} {ca cb cc : CE} (hK : X.K = W.K) (hu : X.A.units + 65 < cLine) (ha : Sd W gl cl X a ca) (hb : Sd W gl cl X b cb) (hc : Sd W gl cl X c cc) : PV.St W gl cl X (.Compare a [o.op, o'.op] [b, c] pos) (.chain o o' ca cb cc) :=
  st_of (pt_chain (cmp2_ok hK (by omega) o) (cmp2_ok hK (by omega) o') ha.kept hb.kept hc.kept (lastMarks_cm o o' b c)) chain_imp bl_chain rfl
theorem st_isn {a : Expr} {ca : CE} {k : Nat} {p : Pos} (ha : Sd W gl cl X a ca) : PV.St W gl cl X (.Compare a [.Is] [.Constant .none k p] pos) (.isn ca false) :=
  st_of (pt_cmpR op_isN ha.pe pe_non (nomark _)) isF_imp bl_isn rfl
theorem st_isnN {a : Expr} {ca : CE} {k : Nat} {p : Pos} (ha : Sd W gl cl X a ca) : PV.St W gl cl X (.Compare a [.IsNot] [.Constant .none k p] pos) (.isn ca true) :=
  st_of (pt_cmpR op_notN ha.pe pe_non (nomark _)) isT_imp bl_isn rfl
theorem st_isb {a : Expr} {ca : CE} {k : Nat} {p : Pos} {b : Bool} (ha : Sd W gl cl X a ca) : PV.St W gl cl X (.Compare a [.Is] [.Constant (.bool b) k p] pos) (.isb ca b false) :=
  st_of (pt_cmpR (op_isB b) ha.pe pe_bl (nomark _)) isbF_imp bl_isb rfl
theorem st_isbN {a : Expr} {ca : CE} {k : Nat} {p : Pos} {b : Bool} (ha : Sd W gl cl X a ca) : PV.St W gl cl X (.Compare a [.IsNot] [.Constant (.bool b) k p] pos) (.isb ca b true) :=
  st_of (pt_cmpR (op_isnB b) ha.pe pe_bl (nomark _)) isbT_imp bl_isb rfl
theorem st_mem {a b : Expr} {ca cb : CE} (hK : X.K = W.K) (hu : X.A.units + 65 < cLine) (ns : noSet b = true) (ha : Sd W gl cl X a ca) (hb : Sd W gl cl X b cb) : PV.St W gl cl X (.Compare a [.In] [b] pos) (.mem ca cb false) :=
  st_of (t := fun σ H Q => tOp (rMem W false) (tK W gl cl ca) (tX W gl cl cb) σ H Q ∨ tDIn (tK W gl cl ca) (tX W gl cl cb) σ H Q) ((pt_cmpR (mem_ok hK hu) ha.kept hb.pe (marks_no ns _)).or' (pt_cmp (pc_din (by omega) ha.kept hb.pe) (marks_no ns _))) mem_imp bl_mem rfl
theorem st_notMem {a b : Expr} {ca cb : CE} (hK : X.K = W.K) (hu : X.A.units + 65 < cLine) (ns : noSet b = true) (ha : Sd W gl cl X a ca) (hb : Sd W gl cl X b cb) : PV.St W gl cl X (.Compare a [.NotIn] [b] pos) (.mem ca cb true) :=
  st_of (t := fun σ H Q => tOp (rMem W true) (tK W gl cl ca) (tX W gl cl cb) σ H Q ∨ tDNotIn (tK W gl cl ca) (tX W gl cl cb) σ H Q) ((pt_cmpR (notMem_ok hK hu) ha.kept hb.pe (marks_no ns _)).or' (pt_cmp (pc_dnotin (by omega) ha.kept hb.pe) (marks_no ns _))) notMem_imp bl_mem rfl
theorem evT_some {e : CE} {g g' : G} {b : Bool} (h : evT gl cl e g = some (b, g')) : ∃ x, evX gl cl e g = some (x, g') ∧ x.2.truth = some b := by
  obtain ⟨x, g1, e1, f1⟩ := bind_some h
  obtain ⟨e2, rfl⟩ := lift_some f1
  exact ⟨x, e1, e2⟩
theorem st_not {a : Expr} {c : CE} (h : PV.St W gl cl X a c) : PV.St W gl cl X (.UnaryOp .Not a pos) (.not c) := by
  refine (pt_not h).mono' ?_
  rintro σ H Q ⟨F, g, b, g', st, ev, q⟩
  obtain ⟨x, e1, e2⟩ := evT_some ev
  simp only [evX] at e1
  obtain ⟨y, g1, e3, f1⟩ := bind_some e1
  obtain ⟨k, g2, e4, f2⟩ := bind_some f1
  obtain ⟨e5, rfl⟩ := lift_some e4
  cases pure_some f2
  cases e2
  refine ⟨F, g, k, g', st, (bind_of e3).trans ?_, fun H1 F1 x1 => q H1 F1 x1⟩
  show (lift y.2.truth : M Bool) g' = _
  rw [e5]; rfl
/-! and, or as tests -/
theorem pw_tand1 {e : Expr} {c : CE} (h : PV.St W gl cl X e c) : PW X (.BoolOp .And [e] pos) (GoT W (evTAnd gl cl [c])) := by
  refine (pw_and1 h).mono' ?_
  rintro σ H Q ⟨F, g, b, g', st, ev, q⟩
  simp only [evTAnd] at ev
  exact ⟨F, g, b, g', st, ev, q⟩
theorem pw_tor1 {e : Expr} {c : CE} (h : PV.St W gl cl X e c) : PW X (.BoolOp .Or [e] pos) (GoT W (evTOr gl cl [c])) := by
  refine (pw_or1 h).mono' ?_
  rintro σ H Q ⟨F, g, b, g', st, ev, q⟩
  simp only [evTOr] at ev
  exact ⟨F, g, b, g', st, ev, q⟩
theorem pw_tandC {e e2 : Expr} {es : List Expr} {c c2 : CE} {cs : List CE} (h : PV.St W gl cl X e c) (hr : PW X (.BoolOp .And (e2 :: es) pos) (GoT W (evTAnd gl cl (c2 :: cs)))) : PW X (.BoolOp .And (e :: e2 :: es) pos) (GoT W (evTAnd gl cl (c :: c2 :: cs))) := by
  refine (pw_and h hr).mono' ?_
  rintro σ H Q ⟨F, g, b, g', st, ev, q⟩
  have ev' : (do let x ← evX gl cl c; let b ← lift x.2.truth; if b then evTAnd gl cl (c2 :: cs) else M.pure false : M Bool) g = some (b, g') := by simpa only [evTAnd] using ev
  obtain ⟨x, g1, e1, f1⟩ := bind_some ev'
  obtain ⟨k, g2, e3, f2⟩ := bind_some f1
  obtain ⟨e4, rfl⟩ := lift_some e3
  refine ⟨F, g, k, g2, st, (bind_of e1).trans e3, fun H1 F1 x1 => ?_⟩
  cases k with
  | true => exact ⟨F1, g2, b, g', x1.st, f2, fun H2 F2 x2 => q H2 F2 (x1.trans x2)⟩
  | false => cases pure_some f2; exact q H1 F1 x1
theorem pw_torC {e e2 : Expr} {es : List Expr} {c c2 : CE} {cs : List CE} (h : PV.St W gl cl X e c) (hr : PW X (.BoolOp .Or (e2 :: es) pos) (GoT W (evTOr gl cl (c2 :: cs)))) : PW X (.BoolOp .Or (e :: e2 :: es) pos) (GoT W (evTOr gl cl (c :: c2 :: cs))) := by
  refine (pw_or h hr).mono' ?_
  rintro σ H Q ⟨F, g, b, g', st, ev, q⟩
  have ev' : (do let x ← evX gl cl c; let b ← lift x.2.truth; if b then M.pure true else evTOr gl cl (c2 :: cs) : M Bool) g = some (b, g') := by simpa only [evTOr] using ev
  obtain ⟨x, g1, e1, f1⟩ := bind_some ev'
  obtain ⟨k, g2, e3, f2⟩ := bind_some f1
  obtain ⟨e4, rfl⟩ := lift_some e3
  refine ⟨F, g, k, g2, st, (bind_of e1).trans e3, fun H1 F1 x1 => ?_⟩
  cases k with
  | false => exact ⟨F1, g2, b, g', x1.st, f2, fun H2 F2 x2 => q H2 F2 (x1.trans x2)⟩
  | true => cases pure_some f2; exact q H1 F1 x1
theorem st_tand {ex : Expr} {cs : List CE} (h : PW X ex (GoT W (evTAnd gl cl cs))) : PV.St W gl cl X ex (.tand cs) := by
  refine h.pt.mono' ?_
  rintro σ H Q ⟨F, g, b, g', st, ev, q⟩
  obtain ⟨x, e1, e2⟩ := evT_some ev
  simp only [evX] at e1
  obtain ⟨k, g1, e3, f1⟩ := bind_some e1
  cases pure_some f1
  cases e2
  exact ⟨F, g, _, g', st, e3, q⟩
theorem st_tor {ex : Expr} {cs : List CE} (h : PW X ex (GoT W (evTOr gl cl cs))) : PV.St W gl cl X ex (.tor cs) := by
  refine h.pt.mono' ?_
  rintro σ H Q ⟨F, g, b, g', st, ev, q⟩
  obtain ⟨x, e1, e2⟩ := evT_some ev
  simp only [evX] at e1
  obtain ⟨k, g1, e3, f1⟩ := bind_some e1
  cases pure_some f1
  cases e2
  exact ⟨F, g, _, g', st, e3, q⟩
/-- a comprehension's one test -/
def PTif (W : Wd) (gl : String → Option T) (cl : Cl) (X : Cx) (es : List Expr) (cs : List CE) : Prop := PTs X es (GoT W (evIfs gl cl cs))
/-! ### x[::-1] -/
theorem op_revT {a : Addr} {vs : List V} {pins : List (Addr × Obj)} {s : Shared} {σ : Sl} {H : Hp} {Q : VK} (I : Inv X pins σ H s) : True := trivial
end
/-! ### calls -/
def lentV : List Bool → List V → List V
  | true :: bs, v :: vs => v :: lentV bs vs
  | false :: bs, _ :: vs => lentV bs vs
  | _, _ => []
/-- what a lent object is -/
def Lent (W : Wd) (H F : Hp) (v : V) (t : T) : Prop := ∃ a o, v = .ref a ∧ F a = none ∧ H a = some o ∧ RepO W F o t
/-- the arguments of a call -/
inductive Args (W : Wd) (H F : Hp) : List Bool → List V → List T → Prop
  | nil : Args W H F [] [] []
  | lent {bs : List Bool} {v : V} {vs : List V} {t : T} {ts : List T} : Lent W H F v t → Args W H F bs vs ts → Args W H F (true :: bs) (v :: vs) (t :: ts)
  | val {bs : List Bool} {v : V} {vs : List V} {t : T} {ts : List T} : Rep W F v t → Args W H F bs vs ts → Args W H F (false :: bs) (v :: vs) (t :: ts)
theorem Args.length {W : Wd} {H F : Hp} {bs : List Bool} {vs : List V} {ts : List T} (h : Args W H F bs vs ts) : vs.length = bs.length ∧ ts.length = bs.length := by
  induction h with
  | nil => exact ⟨rfl, rfl⟩
  | lent _ _ ih => exact ⟨by simp [ih.1], by simp [ih.2]⟩
  | val _ _ ih => exact ⟨by simp [ih.1], by simp [ih.2]⟩
/-- behind a call -/
structure CPost (W : Wd) (H F : Hp) (bs : List Bool) (vs : List V) (r : Ans) (v : V) (H' F' : Hp) : Prop where
  ff : Same F F'
  fh : Same F' H'
  keep : ∀ (a : Addr) (o : HO), H a = some o → V.ref a ∉ lentV bs vs → H' a = some o
  dom : ∀ (a : Addr) (o : HO), H a = some o → ∃ o', H' a = some o'
  new : ∀ (a : Addr) (o : HO), F' a = some o → F a = some o ∨ H a = none
  outs : Paired (Lent W H' F') (lentV bs vs) r.outs
  val : if r.own then New W H H' F' v r.t else Rep W F' v r.t
/-- what the def f promises, by the evaluator -/
def spF (W : Wd) (cl : Cl) (f : String) (bs : List Bool) : Sp := fun vs H Q _ => vs.length = bs.length ∧ ∃ F ts r, Args W H F bs vs ts ∧ (lentV bs vs).Nodup ∧ Same F H ∧ cl f ts = some r ∧ ∀ v H' F', CPost W H F bs vs r v H' F' → Q v H'
end PV

/-! PV16: calls of own defs -/
namespace PV
open PySem PySem.Spec PyProof.Rows L2
theorem paired_get {α β : Type} {R : α → β → Prop} {xs : List α} {ys : List β} (h : Paired R xs ys) : ∀ {k : Nat} {x : α}, xs[k]? = some x → ∃ y, ys[k]? = some y ∧ R x y := by
  induction h with
  | nil => intro k x e; simp at e
  | cons a _ ih =>
    intro k x e
    cases k with
    | zero => simp at e; subst e; exact ⟨_, rfl, a⟩
    | succ k => simp at e; obtain ⟨y, h1, h2⟩ := ih e; exact ⟨y, by simpa using h1, h2⟩
theorem paired_getR {α β : Type} {R : α → β → Prop} {xs : List α} {ys : List β} (h : Paired R xs ys) : ∀ {k : Nat} {y : β}, ys[k]? = some y → ∃ x, xs[k]? = some x ∧ R x y := by
  induction h with
  | nil => intro k x e; simp at e
  | cons a _ ih =>
    intro k x e
    cases k with
    | zero => simp at e; subst e; exact ⟨_, rfl, a⟩
    | succ k => simp at e; obtain ⟨y, h1, h2⟩ := ih e; exact ⟨y, by simpa using h1, h2⟩
section
variable {W : Wd} {gl : String → Option T} {cl : Cl} {X : Cx} {pos : Pos}
inductive ArgV (W : Wd) (σ : Sl) (F : Hp) : List CE → List T → List V → Prop
  | nil : ArgV W σ F [] [] []
  | bor {e : CE} {i : Nat} {v : V} {as : List CE} {t : T} {ts : List T} {vs : List V} : e.lent = some i → σ[i]? = some (some v) → ArgV W σ F as ts vs → ArgV W σ F (e :: as) (t :: ts) (v :: vs)
  | val {e : CE} {v : V} {as : List CE} {t : T} {ts : List T} {vs : List V} : e.lent = none → Rep W F v t → ArgV W σ F as ts vs → ArgV W σ F (e :: as) (t :: ts) (v :: vs)
def lentB (as : List CE) : List Bool := as.map fun e => e.lent.isSome
theorem mine_some {i : Nat} {g g' : G} {t : T} (h : mine i g = some (t, g')) : g' = g ∧ ∃ s, g[i]? = some s ∧ s.mutT = some t := by
  unfold mine at h
  split at h
  · rename_i u e; cases h; exact ⟨rfl, _, e, rfl⟩
  · rename_i u e; cases h; exact ⟨rfl, _, e, rfl⟩
  · cases h
theorem change_some {i : Nat} {g g' : G} {t : T} {u : Unit} (h : change i t g = some (u, g')) : (∃ t0, g[i]? = some (.ow t0) ∧ g' = g.set i (.ow t)) ∨ (∃ t0, g[i]? = some (.bo t0) ∧ g' = g.set i (.bo t)) := by
  unfold change at h
  split at h
  · rename_i u e; cases h; exact .inl ⟨u, e, rfl⟩
  · rename_i u e; cases h; exact .inr ⟨u, e, rfl⟩
  · cases h
/-- the slots that are lent, and their objects -/
abbrev LentAt (W : Wd) (σ : Sl) (g : G) (i : Nat) (v : V) : Prop := σ[i]? = some (some v) ∧ ∃ s t, g[i]? = some s ∧ s.mutT = some t
theorem fill_ok {σ : Sl} {H F : Hp} {g : G} (st : Sta W σ H F g) {as : List CE} {ts0 : List T} {vs : List V} (h : ArgV W σ F as ts0 vs) : ∀ {ts : List T} {g' : G}, fillArgs as ts0 g = some (ts, g') →
    g' = g ∧ Args W H F (lentB as) vs ts ∧ Paired (LentAt W σ g) (lentOf as) (lentV (lentB as) vs) := by
  induction h with
  | nil =>
    intro ts g' e
    simp only [fillArgs] at e
    cases pure_some e
    exact ⟨rfl, .nil, .nil⟩
  | @bor e i v as t ts0 vs hl hs _ ih =>
    intro ts g' ev
    simp only [fillArgs, hl] at ev
    obtain ⟨u, g1, e1, f1⟩ := bind_some ev
    obtain ⟨rfl, s, e2, e3⟩ := mine_some e1
    obtain ⟨r, g2, e4, f2⟩ := bind_some f1
    cases pure_some f2
    obtain ⟨rfl, h1, h2⟩ := ih e4
    obtain ⟨a, o, k1, k2, k3, k4⟩ := (st.slot i s e2).mine (Slot.mine_of_mut e3)
    rw [hs] at k1; cases k1
    refine ⟨rfl, ?_, ?_⟩
    · simp only [lentB, List.map_cons, hl, Option.isSome_some]
      exact .lent ⟨a, o, rfl, k2, k3, k4⟩ h1
    · simp only [lentB, List.map_cons, lentOf, hl, Option.isSome_some, lentV]
      exact .cons ⟨hs, s, u, e2, e3⟩ h2
  | @val e v as t ts0 vs hl hr _ ih =>
    intro ts g' ev
    simp only [fillArgs, hl] at ev
    obtain ⟨r, g2, e4, f2⟩ := bind_some ev
    cases pure_some f2
    obtain ⟨rfl, h1, h2⟩ := ih e4
    refine ⟨rfl, ?_, ?_⟩
    · simp only [lentB, List.map_cons, hl, Option.isSome_none]
      exact .val hr h1
    · simp only [lentB, List.map_cons, lentOf, hl, Option.isSome_none, lentV]
      exact h2
theorem lent_nodup {σ : Sl} {H F : Hp} {g : G} (st : Sta W σ H F g) {is : List Nat} {vs : List V} (h : Paired (LentAt W σ g) is vs) (nd : is.Nodup) : vs.Nodup := by
  have ref : ∀ {i v}, LentAt W σ g i v → ∃ a, v = .ref a := fun {i v} ⟨h1, s, t, h2, h3⟩ => by
    obtain ⟨a, o, k1, _⟩ := (st.slot i s h2).mine (Slot.mine_of_mut h3)
    rw [h1] at k1; cases k1
    exact ⟨a, rfl⟩
  induction h with
  | nil => exact List.nodup_nil
  | @cons i v is vs a r ih =>
    obtain ⟨n1, n2⟩ := List.nodup_cons.mp nd
    refine List.nodup_cons.mpr ⟨fun m => ?_, ih n2⟩
    obtain ⟨k, hk⟩ := List.getElem?_of_mem m
    obtain ⟨j, hj, b⟩ := paired_getR r hk
    obtain ⟨p, rfl⟩ := ref a
    obtain ⟨a1, s, t, a2, a3⟩ := a
    obtain ⟨b1, s', t', b2, b3⟩ := b
    have e := st.apart i j p s s' t t' a2 b2 (Slot.mine_of_mut a3) (Slot.mine_of_mut b3) a1 b1
    subst e
    exact n1 (List.mem_of_getElem? hj)
theorem back_get : ∀ {is : List Nat} {ts : List T} {g g2 : G} {u : Unit}, backArgs is ts g = some (u, g2) → is.Nodup → g2.length = g.length ∧ (∀ j, j ∉ is → g2[j]? = g[j]?) ∧
    Paired (fun i t => (∃ t0, g[i]? = some (Slot.ow t0) ∧ g2[i]? = some (Slot.ow t)) ∨ (∃ t0, g[i]? = some (Slot.bo t0) ∧ g2[i]? = some (Slot.bo t))) is ts
  | [], [], g, g2, u, h, _ => by
    simp only [backArgs] at h
    cases pure_some h
    exact ⟨rfl, fun _ _ => rfl, .nil⟩
  | i :: is, t :: ts, g, g2, u, h, nd => by
    simp only [backArgs] at h
    obtain ⟨_, g1, e1, f1⟩ := bind_some h
    obtain ⟨n1, n2⟩ := List.nodup_cons.mp nd
    obtain ⟨h1, h2, h3⟩ := back_get f1 n2
    have len : g1.length = g.length := by
      rcases change_some e1 with ⟨_, _, rfl⟩ | ⟨_, _, rfl⟩ <;> rw [List.length_set]
    have ne : ∀ j, j ≠ i → g1[j]? = g[j]? := fun j hj => by
      rcases change_some e1 with ⟨_, _, rfl⟩ | ⟨_, _, rfl⟩ <;> exact set_get_ne (fun e => hj e.symm)
    refine ⟨h1.trans len, fun j hj => ?_, .cons ?_ ?_⟩
    · rw [List.mem_cons, not_or] at hj
      rw [h2 j hj.2, ne j hj.1]
    · rw [h2 i n1]
      rcases change_some e1 with ⟨t0, k, rfl⟩ | ⟨t0, k, rfl⟩
      · exact .inl ⟨t0, k, set_get k⟩
      · exact .inr ⟨t0, k, set_get k⟩
    · clear h2 f1 h
      induction h3 with
      | nil => exact .nil
      | @cons j t' js ts' a b ih =>
        rw [List.mem_cons, not_or] at n1
        rw [ne j (fun e => n1.1 e.symm)] at a
        exact .cons a (ih (List.nodup_cons.mpr ⟨n1.2, (List.nodup_cons.mp n2).2⟩) n1.2 (List.nodup_cons.mp n2).2)
  | [], _ :: _, _, _, _, h, _ => by simp only [backArgs] at h; cases h
  | _ :: _, [], _, _, _, h, _ => by simp only [backArgs] at h; cases h
/-- behind a call, in the caller -/
theorem call_ext {σ : Sl} {H F H' F' : Hp} {g g2 : G} {is : List Nat} {bs : List Bool} {vs : List V} {r : Ans} {v : V} {u : Unit} (st : Sta W σ H F g) (hl : Paired (LentAt W σ g) is (lentV bs vs)) (nd : is.Nodup) (c : CPost W H F bs vs r v H' F')
    (b : backArgs is r.outs g = some (u, g2)) : ExE W σ H F g H' F' g2 := by
  obtain ⟨b1, b2, b3⟩ := back_get b nd
  -- a slot that is lent
  have atL : ∀ {i s2}, g2[i]? = some s2 → i ∈ is → ∃ a o t, s2.mutT = some t ∧ s2.mineT = some t ∧ σ[i]? = some (some (.ref a)) ∧ F' a = none ∧ H' a = some o ∧ RepO W F' o t ∧
      ((∃ t0, g[i]? = some (Slot.ow t0) ∧ s2 = .ow t) ∨ (∃ t0, g[i]? = some (Slot.bo t0) ∧ s2 = .bo t)) := by
    intro i s2 h m
    obtain ⟨k, hk⟩ := List.getElem?_of_mem m
    obtain ⟨w, hw, h1, _⟩ := paired_get hl hk
    obtain ⟨t, ht, h3⟩ := paired_get c.outs hw
    obtain ⟨t', ht', h4⟩ := paired_get b3 hk
    rw [ht] at ht'; cases ht'
    obtain ⟨a, o, rfl, k2, k3, k4⟩ := h3
    rcases h4 with ⟨t0, j1, j2⟩ | ⟨t0, j1, j2⟩
    · rw [h] at j2; cases j2
      exact ⟨a, o, t, rfl, rfl, h1, k2, k3, k4, .inl ⟨t0, j1, rfl⟩⟩
    · rw [h] at j2; cases j2
      exact ⟨a, o, t, rfl, rfl, h1, k2, k3, k4, .inr ⟨t0, j1, rfl⟩⟩
  -- the lent objects are slots' objects
  have lentMu : ∀ a, V.ref a ∈ lentV bs vs → Mu σ g a := by
    intro a m
    obtain ⟨k, hk⟩ := List.getElem?_of_mem m
    obtain ⟨i, hi, h1, s, t, h2, h3⟩ := paired_getR hl hk
    exact ⟨i, s, t, h2, h3, h1⟩
  have back : ∀ {i : Nat} {s2 : Slot}, g2[i]? = some s2 → ∃ s : Slot, g[i]? = some s ∧ ((∃ t, s.mineT = some t) ↔ (∃ t, s2.mineT = some t)) := by
    intro i s2 h
    by_cases m : i ∈ is
    · obtain ⟨a, o, t, _, e, _, _, _, _, k⟩ := atL h m
      rcases k with ⟨t0, k, rfl⟩ | ⟨t0, k, rfl⟩
      · exact ⟨_, k, ⟨fun _ => ⟨_, rfl⟩, fun _ => ⟨_, rfl⟩⟩⟩
      · exact ⟨_, k, ⟨fun _ => ⟨_, rfl⟩, fun _ => ⟨_, rfl⟩⟩⟩
    · rw [b2 i m] at h
      exact ⟨s2, h, Iff.rfl⟩
  have sta : Sta W σ H' F' g2 := by
    refine ⟨c.fh, fun i s2 h => ?_, fun i j a s s' t t' hi hj mi mj zi zj => ?_, b1.trans st.len⟩
    · by_cases m : i ∈ is
      · obtain ⟨a, o, t, _, e, h1, h2, h3, h4, _⟩ := atL h m
        exact .of_mine e h1 h2 h3 h4
      · rw [b2 i m] at h
        have q := st.slot i s2 h
        cases e : s2.mineT with
        | some t =>
          obtain ⟨a, o, k1, k2, k3, k4⟩ := q.mine e
          have nl : V.ref a ∉ lentV bs vs := fun z => by
            obtain ⟨j, s, t', j1, j2, j3⟩ := lentMu a z
            obtain ⟨k, hk⟩ := List.getElem?_of_mem z
            obtain ⟨i', hi', h1, _⟩ := paired_getR hl hk
            obtain ⟨s0, t0, l1, l2⟩ := (paired_get hl hi').elim fun w q => q.2.2
            have := st.apart i i' a _ _ _ _ h l1 e (Slot.mine_of_mut l2) k1 h1
            subst this
            exact m (List.mem_of_getElem? hi')
          refine .of_mine e k1 ?_ (c.keep a o k3 nl) (k4.mono c.ff)
          cases z : F' a with
          | none => rfl
          | some x =>
            rcases c.new a x z with w | w
            · rw [k2] at w; cases w
            · rw [k3] at w; cases w
        | none =>
          cases s2 with
          | no => trivial
          | sh t => obtain ⟨v, h1, h2⟩ := q; exact ⟨v, h1, h2.mono c.ff⟩
          | _ => cases e
    · obtain ⟨s0, k0, e0⟩ := back hi
      obtain ⟨s1, k1, e1⟩ := back hj
      obtain ⟨t0, m0⟩ := e0.mpr ⟨t, mi⟩
      obtain ⟨t1, m1⟩ := e1.mpr ⟨t', mj⟩
      exact st.apart i j a _ _ _ _ k0 k1 m0 m1 zi zj
  have kind : ∀ (i : Nat), (∃ t : T, g[i]? = some (Slot.bo t)) ↔ (∃ t : T, g2[i]? = some (Slot.bo t)) := by
    intro i
    by_cases m : i ∈ is
    · constructor
      · rintro ⟨t, h⟩
        obtain ⟨hi, _⟩ := List.getElem?_eq_some_iff.mp h
        obtain ⟨_, _, t2, _, _, _, _, _, _, k⟩ := atL (List.getElem?_eq_getElem (by omega : i < g2.length)) m
        rcases k with ⟨t0, k, e⟩ | ⟨t0, k, e⟩
        · rw [h] at k; cases k
        · exact ⟨t2, by rw [List.getElem?_eq_getElem (by omega : i < g2.length), e]⟩
      · rintro ⟨t, h⟩
        obtain ⟨_, _, t2, _, _, _, _, _, _, k⟩ := atL h m
        rcases k with ⟨t0, k, e⟩ | ⟨t0, k, e⟩
        · cases e
        · exact ⟨t0, k⟩
    · rw [b2 i m]
  refine ⟨⟨sta, c.ff, fun a o h n => c.keep a o h fun z => n (lentMu a z), c.dom, fun a m => ?_, fun a o h => ?_, kind, fun _ _ _ => rfl, fun i t => ?_, fun _ _ _ => rfl⟩, fun i t h => ?_⟩
  · obtain ⟨i, t, h, z⟩ := m
    by_cases m : i ∈ is
    · obtain ⟨_, _, _, _, _, _, _, _, _, k⟩ := atL h m
      rcases k with ⟨t0, k, e⟩ | ⟨t0, k, e⟩
      · exact .inl ⟨i, t0, k, z⟩
      · cases e
    · rw [b2 i m] at h; exact .inl ⟨i, t, h, z⟩
  · rcases c.new a o h with k | k
    · exact .inl k
    · exact .inr (.inl k)
  · by_cases m : i ∈ is
    · constructor
      · intro h
        obtain ⟨hi, _⟩ := List.getElem?_eq_some_iff.mp h
        obtain ⟨_, _, _, _, _, _, _, _, _, k⟩ := atL (List.getElem?_eq_getElem (by omega : i < g2.length)) m
        rcases k with ⟨t0, k, e⟩ | ⟨t0, k, e⟩ <;> (rw [h] at k; cases k)
      · intro h
        obtain ⟨_, _, _, _, _, _, _, _, _, k⟩ := atL h m
        rcases k with ⟨t0, k, e⟩ | ⟨t0, k, e⟩ <;> cases e
    · rw [b2 i m]
  · by_cases m : i ∈ is
    · obtain ⟨_, _, _, _, _, _, _, _, _, k⟩ := atL h m
      rcases k with ⟨t0, k, e⟩ | ⟨t0, k, e⟩
      · exact ⟨t0, k⟩
      · cases e
    · rw [b2 i m] at h; exact ⟨t, h⟩
/-! the arguments -/
theorem ArgV.mono {σ : Sl} {F F' : Hp} (s : Same F F') {as : List CE} {ts : List T} {vs : List V} (h : ArgV W σ F as ts vs) : ArgV W σ F' as ts vs := by
  induction h with
  | nil => exact .nil
  | bor a b _ ih => exact .bor a b ih
  | val a b _ ih => exact .val a (b.mono s) ih
theorem pa_args_nil : PA X [] (GoA W (fun σ _ F' ts vs => ArgV W σ F' [] ts vs) (evArgs gl cl [])) := by
  refine pa_nil.mono' ?_
  rintro σ H Q ⟨F, g, ts, g', st, ev, q⟩
  simp only [evArgs] at ev
  cases pure_some ev
  exact q [] H F (.refl st) .nil
theorem pa_args_val {e : Expr} {es : List Expr} {c : CE} {cs : List CE} (ns : notStar e = true) (nl : c.lent = none) (h : Sd W gl cl X e c) (hr : PA X es (GoA W (fun σ _ F' ts vs => ArgV W σ F' cs ts vs) (evArgs gl cl cs))) :
    PA X (e :: es) (GoA W (fun σ _ F' ts vs => ArgV W σ F' (c :: cs) ts vs) (evArgs gl cl (c :: cs))) := by
  refine (pa_cons h.kept hr (star_no ns)).mono' ?_
  rintro σ H Q ⟨F, g, ts, g', st, ev, q⟩
  simp only [evArgs, nl] at ev
  obtain ⟨x, g1, e1, f1⟩ := bind_some ev
  obtain ⟨xs, g2, e2, f2⟩ := bind_some f1
  cases pure_some f2
  exact ⟨F, g, x, g1, st, e1, fun v H1 F1 x1 r1 => ⟨F1, g1, xs, g', x1.st, e2, fun vs H2 F2 x2 r2 => q _ H2 F2 (x1.trans x2) (.val nl (r1.mono x2.x.mono) r2)⟩⟩
theorem pa_args_bor {e : Expr} {es : List Expr} {i : Nat} {c : CE} {cs : List CE} (ns : notStar e = true) (hc : c.lent = some i) (h : PE X e (tVar i)) (hr : PA X es (GoA W (fun σ _ F' ts vs => ArgV W σ F' cs ts vs) (evArgs gl cl cs))) :
    PA X (e :: es) (GoA W (fun σ _ F' ts vs => ArgV W σ F' (c :: cs) ts vs) (evArgs gl cl (c :: cs))) := by
  refine (pa_cons h hr (star_no ns)).mono' ?_
  rintro σ H Q ⟨F, g, ts, g', st, ev, q⟩
  simp only [evArgs, hc] at ev
  obtain ⟨x, g1, e1, f1⟩ := bind_some ev
  obtain ⟨rfl, s, e3, e4⟩ := mine_some e1
  obtain ⟨xs, g2, e2, f2⟩ := bind_some f1
  cases pure_some f2
  obtain ⟨a, o, k1, k2, k3, k4⟩ := (st.slot i s e3).mine (Slot.mine_of_mut e4)
  exact ⟨_, k1, F, g1, xs, g', st, e2, fun vs H2 F2 x2 r2 => q _ H2 F2 x2 (.bor hc k1 r2)⟩
/-- f(..), a def of the text -/
theorem sd_call {ex : Expr} {es : List Expr} {f : String} {as : List CE} {bs : List Bool} (hb : lentB as = bs) (hx : ∀ {t : TA}, PA X es t → PE X ex (tCall (spF W cl f bs) [] E0 t)) (h : PA X es (GoA W (fun σ _ F' ts vs => ArgV W σ F' as ts vs) (evArgs gl cl as))) :
    Sd W gl cl X ex (.call f as) := by
  subst hb
  refine .of rfl ((hx h).mono' ?_)
  rintro σ H Q ⟨F, g, r, g', st, ev, q⟩
  simp only [evX] at ev
  obtain ⟨_, g0, e0, f0⟩ := bind_some ev
  obtain ⟨nd, rfl⟩ := ask_some e0
  obtain ⟨ts0, g1, e1, f1⟩ := bind_some f0
  obtain ⟨ts, g2, e2, f2⟩ := bind_some f1
  obtain ⟨a, g3, e3, f3⟩ := bind_some f2
  obtain ⟨e4, rfl⟩ := lift_some e3
  obtain ⟨_, g4, e5, f4⟩ := bind_some f3
  cases pure_some f4
  refine ⟨F, g0, ts0, g1, st, e1, fun vs H1 F1 x1 r1 => ?_⟩
  obtain ⟨rfl, k1, k2⟩ := fill_ok x1.st r1 e2
  have nd' := lent_nodup x1.st k2 (of_decide_eq_true nd)
  refine ⟨by rw [List.append_nil]; exact k1.length.1, F1, ts, a, by rw [List.append_nil]; exact k1, by rw [List.append_nil]; exact nd', x1.st.same, e4, fun v H' F' c => ?_⟩
  rw [List.append_nil] at c
  have x2 := call_ext x1.st k2 (of_decide_eq_true nd) c e5
  refine q v H' F' (x1.trans x2) ?_
  unfold Val
  have cv := c.val
  split at cv
  · rename_i ho
    rw [if_pos ho]
    obtain ⟨p, o, e, n0, n1, n2, n3⟩ := cv
    refine ⟨p, o, e, ?_, n1, n2, n3⟩
    cases z : H p with
    | none => rfl
    | some y =>
      obtain ⟨y', hy⟩ := x1.x.dom p y z
      rw [n0] at hy; cases hy
  · rename_i ho
    rw [if_neg ho, if_neg (by simp [CE.isVar])]
    exact cv
end
end PV

/-! PV17: changes; methods; instances made; lists of ranges -/
namespace PV
open PySem PySem.Spec PyProof.Rows L2
section
variable {W : Wd} {gl : String → Option T} {cl : Cl} {X : Cx} {pos : Pos}
/-- a slot's own object gets another content -/
theorem Sta.write {σ : Sl} {H F : Hp} {g g' : G} {i : Nat} {s : Slot} {t t' : T} {a : Addr} {o o' : HO} {u : Unit} (st : Sta W σ H F g) (hi : g[i]? = some s) (m : s.mutT = some t) (hs : σ[i]? = some (some (.ref a))) (ho : H a = some o) (r : RepO W F o' t') (c : change i t' g = some (u, g')) :
    ExE W σ H F g (upd H a o') F g' := by
  obtain ⟨b, ob, k1, k2, k3, k4⟩ := (st.slot i s hi).mine (Slot.mine_of_mut m)
  rw [hs] at k1; cases k1
  have dm : Same F (upd H a o') := fun b u e => by
    rw [upd_ne (fun z => by rw [z, k2] at e; cases e)]
    exact st.same _ _ e
  obtain ⟨s', e', kind⟩ : ∃ s', g' = g.set i s' ∧ ((∃ t0, g[i]? = some (.ow t0) ∧ s' = .ow t') ∨ (∃ t0, g[i]? = some (.bo t0) ∧ s' = .bo t')) := by
    rcases change_some c with ⟨t0, h, e⟩ | ⟨t0, h, e⟩
    · exact ⟨_, e, .inl ⟨t0, h, rfl⟩⟩
    · exact ⟨_, e, .inr ⟨t0, h, rfl⟩⟩
  subst e'
  have sm : s'.mineT = some t' := by rcases kind with ⟨_, _, rfl⟩ | ⟨_, _, rfl⟩ <;> rfl
  refine ⟨⟨⟨dm, fun j s2 h => ?_, fun j k b s1 s2 t1 t2 h1 h2 m1 m2 z1 z2 => ?_, by rw [List.length_set]; exact st.len⟩, Same.refl _, fun b ob h n => ?_, fun b ob h => ?_, fun b h => ?_, fun _ _ h => .inl h, fun j => ?_, fun _ _ _ => rfl, fun j t2 => ?_, fun _ _ _ => rfl⟩, fun j t2 h => ?_⟩
  · rcases get_set h with ⟨rfl, rfl⟩ | ⟨ne, h⟩
    · exact .of_mine sm hs k2 upd_same r
    · have q := st.slot j s2 h
      cases e : s2.mineT with
      | some t2 =>
        obtain ⟨b, ob2, l1, l2, l3, l4⟩ := q.mine e
        have nb : b ≠ a := fun z => ne (st.apart i j a _ _ _ _ hi h (Slot.mine_of_mut m) e hs (by rw [l1, z]))
        exact .of_mine e l1 l2 (by rw [upd_ne nb]; exact l3) l4
      | none =>
        cases s2 with
        | no => trivial
        | sh t => exact q
        | _ => cases e
  · have old : ∀ {j : Nat} {s1 : Slot} {t1 : T}, (g.set i s')[j]? = some s1 → Slot.mineT s1 = some t1 → ∃ (s0 : Slot) (t0 : T), g[j]? = some s0 ∧ Slot.mineT s0 = some t0 := by
      intro j s1 t1 h m1
      rcases get_set h with ⟨rfl, rfl⟩ | ⟨_, h⟩
      · exact ⟨s, t, hi, Slot.mine_of_mut m⟩
      · exact ⟨s1, t1, h, m1⟩
    obtain ⟨s3, t3, h3, m3⟩ := old h1 m1
    obtain ⟨s4, t4, h4, m4⟩ := old h2 m2
    exact st.apart j k b s3 s4 t3 t4 h3 h4 m3 m4 z1 z2
  · by_cases hb : b = a
    · subst hb; exact absurd ⟨i, s, t, hi, m, hs⟩ n
    · rw [upd_ne hb]; exact h
  · by_cases hb : b = a
    · subst hb; exact ⟨o', upd_same⟩
    · exact ⟨ob, by rw [upd_ne hb]; exact h⟩
  · obtain ⟨j, t2, h, z⟩ := h
    rcases get_set h with ⟨rfl, e⟩ | ⟨_, h⟩
    · rcases kind with ⟨t0, k, _⟩ | ⟨t0, k, e2⟩
      · exact .inl ⟨i, t0, k, z⟩
      · rw [e2] at e; cases e
    · exact .inl ⟨j, t2, h, z⟩
  · by_cases e : i = j
    · subst e
      rcases kind with ⟨t0, k, rfl⟩ | ⟨t0, k, rfl⟩
      · rw [set_get k, k]; simp
      · rw [set_get k, k]; simp
    · rw [set_get_ne e]
  · by_cases e : i = j
    · subst e
      rcases kind with ⟨t0, k, rfl⟩ | ⟨t0, k, rfl⟩
      · rw [set_get k, k]; simp
      · rw [set_get k, k]; simp
    · rw [set_get_ne e]
  · rcases get_set h with ⟨rfl, e⟩ | ⟨_, h⟩
    · rcases kind with ⟨t0, k, _⟩ | ⟨t0, k, e2⟩
      · exact ⟨t0, k⟩
      · rw [e2] at e; cases e
    · exact ⟨t2, h⟩
/-- what a changing method does, by values -/
def rMut (W : Wd) (m : Mt) : V → List V → Hp → VK → Prop := fun x vs H Q => ∃ F a ws xs ts r t', Same F H ∧ F a = none ∧ x = .ref a ∧ H a = some (.lst ws) ∧ Reps W F ws xs ∧ Reps W F vs ts ∧ mut2 m (.lst xs) ts = some (r, t') ∧
  ∀ w o', RepO W F o' t' → Rep W F w r → Q w (upd H a o')
def Mt.id : Mt → String
  | .append => "list.append" | .extend => "list.extend" | .pop => "list.pop" | .popAt => "list.pop" | .insert => "list.insert" | .remove => "list.remove"
def Mt.nm : Mt → String
  | .append => "append" | .extend => "extend" | .pop => "pop" | .popAt => "pop" | .insert => "insert" | .remove => "remove"
theorem Reps.dropLast {F : Hp} {vs : List V} {ts : List T} (h : Reps W F vs ts) : Reps W F vs.dropLast ts.dropLast := by
  rw [List.dropLast_eq_take, List.dropLast_eq_take, h.length]
  exact h.take _
theorem mut2_ok (m : Mt) : MtM X m.id (rMut W m) := by
  intro pins s σ H x vs v us Q I rx rv ⟨F, a, ws, xs, ts, r, t', sm, fa, ex, ha, hw, hv, e, q⟩
  cases m with
  | append =>
    match ts, e, hv with
    | [y], e, .cons (v := u) hy .nil =>
      simp only [mut2] at e
      split at e
      · rename_i hz
        cases e
        exact mt_append pins s σ H x _ v us Q I rx rv ⟨a, ws, u, ex, rfl, ha, by rw [hw.length]; exact Nat.lt_of_lt_of_le hz lim_le, q _ _ (.lst (hw.append (.cons hy .nil))) .non⟩
      · cases e
    | [], e, _ => simp [mut2] at e
    | _ :: _ :: _, e, _ => simp [mut2] at e
  | extend =>
    match ts, e, hv with
    | [.lst ys], e, .cons (v := u) hy .nil =>
      simp only [mut2] at e
      split at e
      · rename_i hz
        cases e
        obtain ⟨b, zs, rfl, h1, h2⟩ := hy.lst_inv
        exact mt_extend pins s σ H x _ v us Q I rx rv ⟨a, b, ws, zs, ex, rfl, ha, sm _ _ h1, by rw [hw.length, h2.length]; exact Nat.le_trans hz lim_le, q _ _ (.lst (hw.append h2)) .non⟩
      · cases e
    | [], e, _ => simp [mut2] at e
    | [.non], e, _ => simp [mut2] at e
    | [.bl _], e, _ => simp [mut2] at e
    | [.int _], e, _ => simp [mut2] at e
    | [.str _], e, _ => simp [mut2] at e
    | [.tup _], e, _ => simp [mut2] at e
    | [.frl _], e, _ => simp [mut2] at e
    | [.dct _ _], e, _ => simp [mut2] at e
    | [.ins _ _], e, _ => simp [mut2] at e
    | x :: _ :: _, e, _ => cases x <;> simp [mut2] at e
  | pop =>
    match ts, e, hv with
    | [], e, .nil =>
      simp only [mut2] at e
      split at e
      · rename_i y hy
        cases e
        rw [List.getLast?_eq_getElem?] at hy
        obtain ⟨u, k1, k2⟩ := hw.get hy
        exact mt_pop pins s σ H x _ v us Q I rx rv ⟨a, ws, u, ex, rfl, ha, by rw [hw.length]; exact k1, q _ _ (.lst hw.dropLast) k2⟩
      · cases e
    | _ :: _, e, _ => simp [mut2] at e
  | popAt =>
    match ts, e, hv with
    | [y], e, .cons (v := u) hy .nil =>
      cases y <;> first | (simp [mut2] at e; done) | skip
      rename_i i
      simp only [mut2] at e
      split at e
      · rename_i hz
        simp only [lt62, Bool.and_eq_true, decide_eq_true_eq] at hz
        cases hp : place xs.length i with
        | none => rw [hp] at e; cases e
        | some j =>
          rw [hp] at e
          simp only [Option.bind_some] at e
          cases hx : xs[j]? with
          | none => rw [hx] at e; cases e
          | some y =>
            rw [hx] at e
            cases e
            obtain ⟨u', k1, k2⟩ := hw.get hx
            obtain ⟨j1, _, _, _⟩ := ixN_seq (by rw [← place_ix]; exact hp)
            refine mt_popAt pins s σ H x _ v us Q I rx rv ⟨a, ws, i, j, u', ex, by rw [hy.int_inv], ha, by omega, by omega, by rw [hw.length]; exact j1, k1, q _ _ (.lst (hw.eraseIdx j)) k2⟩
      · cases e
    | [], e, _ => simp [mut2] at e
    | _ :: _ :: _, e, _ => simp [mut2] at e
  | insert =>
    match ts, e, hv with
    | [y, z], e, .cons (v := u) hy (.cons (v := u2) hz' .nil) =>
      cases y <;> first | (simp [mut2] at e; done) | skip
      rename_i i
      simp only [mut2] at e
      split at e
      · rename_i hz
        simp only [lt62, Bool.and_eq_true, decide_eq_true_eq] at hz
        cases e
        have hl : lim = 1000000 := rfl
        refine mt_insert pins s σ H x _ v us Q I rx rv ⟨a, ws, i, u2, ex, by rw [hy.int_inv], ha, by rw [hw.length]; exact Nat.lt_of_lt_of_le hz.2 lim_le, hz.1.1, by omega, ?_⟩
        have := q .non (.lst (ws.take i.toNat ++ [u2] ++ ws.drop i.toNat)) (.lst (by
          rw [List.append_assoc]
          exact (hw.take _).append (.cons hz' (hw.drop _)))) .non
        exact this
      · cases e
    | [], e, _ => simp [mut2] at e
    | [_], e, _ => simp [mut2] at e
    | x :: _ :: _ :: _, e, _ => cases x <;> simp [mut2] at e
  | remove => simp [mut2] at e
theorem isLst_of {t : T} (h : t.isLst = true) : ∃ xs, t = .lst xs := by
  cases t <;> simp [T.isLst] at h
  exact ⟨_, rfl⟩
/-- behind the arguments of a changing method -/
theorem mut_fin {m : Mt} {i : Nat} {as : List CE} {σ : Sl} {H F : Hp} {g g' : G} {Q : VK} {r : Bool × T} (st : Sta W σ H F g) (ev : evX gl cl (.mut m i as) g = some (r, g')) (q : ∀ v H' F', ExE W σ H F g H' F' g' → Val W (.mut m i as) H H' F' r v → Q v H') :
    ∃ a ws ts g1, σ[i]? = some (some (.ref a)) ∧ H a = some (.lst ws) ∧ evKept gl cl as g = some (ts, g1) ∧ ∀ vs H1 F1, ExE W σ H F g H1 F1 g1 → Reps W F1 vs ts → rMut W m (.ref a) vs H1 Q := by
  simp only [evX] at ev
  obtain ⟨t0, g0, e0, f0⟩ := bind_some ev
  obtain ⟨rfl, s0, k0, k1⟩ := mine_some e0
  obtain ⟨_, g00, e1, f1⟩ := bind_some f0
  obtain ⟨e2, rfl⟩ := ask_some e1
  obtain ⟨ts, g1, e3, f2⟩ := bind_some f1
  obtain ⟨t, g2, e4, f3⟩ := bind_some f2
  obtain ⟨rfl, s1, k2, k3⟩ := mine_some e4
  obtain ⟨rr, g3, e5, f4⟩ := bind_some f3
  obtain ⟨e6, rfl⟩ := lift_some e5
  obtain ⟨_, g4, e7, f5⟩ := bind_some f4
  cases pure_some f5
  obtain ⟨xs0, rfl⟩ := isLst_of e2
  obtain ⟨a, o, l1, l2, l3, l4⟩ := (st.slot i s0 k0).mine (Slot.mine_of_mut k1)
  obtain ⟨ws, rfl⟩ : ∃ ws, o = .lst ws := by cases l4; exact ⟨_, rfl⟩
  refine ⟨a, ws, ts, _, l1, l3, e3, fun vs H1 F1 x1 hv => ?_⟩
  obtain ⟨a', o', m1, m2, m3, m4⟩ := (x1.st.slot i s1 k2).mine (Slot.mine_of_mut k3)
  rw [l1] at m1; cases m1
  have : ∃ xs ws', t = .lst xs ∧ o' = .lst ws' := by
    cases m with
    | remove => cases t <;> cases ts <;> simp [mut2] at e6
    | _ =>
      cases t with
      | lst xs => cases m4; exact ⟨_, _, rfl, rfl⟩
      | _ => simp [mut2] at e6
  obtain ⟨xs, ws', rfl, rfl⟩ := this
  obtain ⟨rv, rt⟩ := rr
  refine ⟨F1, a, ws', xs, ts, rv, rt, x1.st.same, m2, rfl, m3, (by cases m4; assumption), hv, e6, fun w o2 ro rw' => ?_⟩
  have x2 := x1.st.write k2 k3 l1 m3 ro e7
  exact q w _ F1 (x1.trans x2) (.rep rfl rw')
theorem few_ok {es : List Expr} {env : Env} {p : Pos} (h : es.all notStar = true) (hz : es.length < 20) : ((backTo p (starEach es env)).all (fun x => !x.1) && (backToKw p (keywordEach [] env)).all (fun x => x.1.isSome)
      && decide (es.length + ([] : List Keyword).length + (if ([] : List Keyword).isEmpty then 0 else 1) < 30)) = true := by
  have k : ∀ {es : List Expr}, es.all notStar = true → ((backTo p (starEach es env)).all fun x => !x.1) = true := by
    intro es h
    induction es with
    | nil => rfl
    | cons e es ih =>
      rw [List.all_cons, Bool.and_eq_true] at h
      rw [star_no h.1]
      show (!false && _) = true
      rw [Bool.not_false, Bool.true_and]
      exact ih h.2
  rw [k h]
  simp [keywordEach, backToKw]
  omega
theorem plain_ok {es : List Expr} {env : Env} {p : Pos} (h : es.all notStar = true) : (backTo p (starEach es env)).any (·.1) = false := by
  induction es with
  | nil => rfl
  | cons e es ih =>
    rw [List.all_cons, Bool.and_eq_true] at h
    rw [star_no h.1]
    show (false || _) = false
    rw [Bool.false_or]
    exact ih h.2
theorem sd_mut {m : Mt} {i : Nat} {o e : Expr} {es : List Expr} {as : List CE} {apos cpos : Pos} {name : Str} (hn : name = Str.ofString m.nm) (ho : PE X o (tVar i)) (hb : noCall0 o = true) (hst : (e :: es).all notStar = true) (hz : (e :: es).length < 20) (hline : (apos.endLine == cpos.line) = true)
    (h : PA X (e :: es) (GoA W (RL W) (evKept gl cl as))) : Sd W gl cl X (.Call (.Attribute o name apos) (e :: es) [] cpos) (.mut m i as) := by
  subst hn
  have st1 := (List.all_eq_true.mp hst e List.mem_cons_self)
  have st2 : es.all notStar = true := List.all_eq_true.mpr fun x hx => List.all_eq_true.mp hst x (List.mem_cons_of_mem _ hx)
  have key : ∀ {id : String}, PySem.Slot "list" (Str.ofString m.nm) id → typeOf (.builtin id) = pure (.type "method_descriptor") → MtM X id (rMut W m) → Sd W gl cl X (.Call (.Attribute o (Str.ofString m.nm) apos) (e :: es) [] cpos) (.mut m i as) := fun {id} slot hty hm => by
    refine .of rfl ((pe_bm PySem.F.plainAttrs_list slot hty hm ho h (attrBase hb) (few_ok hst hz) hline (star_no st1) (plain_ok st2)).mono' ?_)
    rintro σ H Q ⟨F, g, r, g', st, ev, q⟩
    obtain ⟨a, ws, ts, g1, k1, k2, k3, k4⟩ := mut_fin st ev q
    exact ⟨.ref a, k1, .inl ⟨rfl, _, .of k2⟩, F, g, ts, g1, st, k3, fun vs H1 F1 x1 r1 => k4 vs H1 F1 x1 r1⟩
  cases m with
  | append => exact key PySem.F.slot_list_append PySem.F.type_list_append (mut2_ok .append)
  | extend => exact key PySem.F.slot_list_extend PySem.F.type_list_extend (mut2_ok .extend)
  | pop => exact key PySem.F.slot_list_pop PySem.F.type_list_pop (mut2_ok .pop)
  | popAt => exact key PySem.F.slot_list_pop PySem.F.type_list_pop (mut2_ok .popAt)
  | insert => exact key PySem.F.slot_list_insert PySem.F.type_list_insert (mut2_ok .insert)
  | remove => exact key PySem.F.slot_list_remove PySem.F.type_list_remove (mut2_ok .remove)
theorem sd_mut0 {m : Mt} {i : Nat} {o : Expr} {apos cpos : Pos} {name : Str} (hn : name = Str.ofString "pop") (hm : m = .pop) (ho : PE X o (tVar i)) (hb : noCall0 o = true) (hline : (apos.endLine == cpos.line) = true) : Sd W gl cl X (.Call (.Attribute o name apos) [] [] cpos) (.mut m i []) := by
  subst hn hm
  refine .of rfl ((pe_bm0 PySem.F.plainAttrs_list PySem.F.slot_list_pop PySem.F.type_list_pop (mut2_ok (W := W) .pop) ho (attrBase hb) hline).mono' ?_)
  rintro σ H Q ⟨F, g, r, g', st, ev, q⟩
  obtain ⟨a, ws, ts, g1, k1, k2, k3, k4⟩ := mut_fin st ev q
  simp only [evKept] at k3
  cases pure_some k3
  exact ⟨.ref a, k1, .inl ⟨rfl, _, .of k2⟩, k4 [] H F (.refl st) .nil⟩
end
end PV

/-! PV18: what is walked -/
namespace PV
open PySem PySem.Spec PyProof.Rows L2
/-- what never changes, and what is walked, stand as they stood -/
structure Keeps (σ : Sl) (H F : Hp) (g : G) (σ' : Sl) (H' F' : Hp) (g' : G) : Prop where
  ff : Same F F'
  fh : Same F' H'
  lk : ∀ (i : Nat) (t : T), g[i]? = some (Slot.lk t) → g'[i]? = some (Slot.lk t) ∧ σ'[i]? = σ[i]? ∧ ∀ a, σ[i]? = some (some (.ref a)) → H' a = H a
theorem Ext.keeps {W : Wd} {σ σ' : Sl} {H F H' F' : Hp} {g g' : G} (st : Sta W σ H F g) (x : Ext W σ H F g σ' H' F' g') : Keeps σ H F g σ' H' F' g' := by
  refine ⟨x.mono, x.st.same, fun i t h => ⟨(x.lck i t).mp h, x.lckS i t h, fun a z => ?_⟩⟩
  obtain ⟨b, o, h1, h2, h3, h4⟩ := (st.slot i _ h).mine (t := t) rfl
  rw [z] at h1; cases h1
  rw [h3]
  refine x.keep a o h3 ?_
  rintro ⟨j, s, u, k1, k2, k3⟩
  have e := st.apart i j a _ _ _ _ h k1 rfl (Slot.mine_of_mut k2) z k3
  subst e
  rw [h] at k1; cases k1; cases k2
/-- a walker over the items xs, while S holds -/
structure Walkr (W : Wd) (J : It) (xs : List T) (S : Sl → Hp → Hp → G → Prop) : Prop where
  stable : ∀ {σ H F g σ' H' F' g'}, S σ H F g → Keeps σ H F g σ' H' F' g' → S σ' H' F' g'
  go : ∀ {σ H F g i}, S σ H F g → i < xs.length → J.go i H
  stop : ∀ {σ H F g i}, S σ H F g → xs.length ≤ i → J.stop i H
  yld : ∀ {σ H F g i x H'}, S σ H F g → Same F H → i < xs.length → J.yld i H x H' → ∃ t, xs[i]? = some t ∧ ∃ F', Out W H F (false, t) x H' F'
def lockG (j : Option Nat) (g : G) : G := match j with
  | none => g
  | some j => match g[j]? with
    | some (.ow t) => g.set j (.lk t)
    | _ => g
def isBoAt (j : Option Nat) (g : G) : Prop := ∃ k t, j = some k ∧ g[k]? = some (Slot.bo t)
/-- a source has come -/
def Wlk (W : Wd) (σ : Sl) (H F : Hp) (g : G) (src : Option Nat × List T) (J : It) : Prop := isBoAt src.1 g ∨ ∃ S, Walkr W J src.2 S ∧ S σ H F (lockG src.1 g)
def tI (W : Wd) (gl : String → Option T) (cl : Cl) (it : CI) : TI := fun σ H R => ∃ F g src g', Sta W σ H F g ∧ evIt gl cl it g = some (src, g') ∧ ∀ J H' F', ExE W σ H F g H' F' g' → Wlk W σ H' F' g' src J → R J H'
theorem _root_.L2.PI.mono' {X : Cx} {tg e : Expr} {t t' : TI} (h : PI X tg e t) (m : ∀ σ H R, t' σ H R → t σ H R) : PI X tg e t' := ⟨fun pins s σ H R I q => h.run pins s σ H R I (m σ H R q)⟩
theorem _root_.L2.PI.or' {X : Cx} {tg e : Expr} {t t' : TI} (h : PI X tg e t) (h' : PI X tg e t') : PI X tg e (fun σ H R => t σ H R ∨ t' σ H R) := ⟨fun pins s σ H R I q => by
  rcases q with q | q
  · exact h.run pins s σ H R I q
  · exact h'.run pins s σ H R I q⟩
section
variable {W : Wd} {gl : String → Option T} {cl : Cl} {X : Cx} {pos : Pos}
/-- a list's content, however it is held -/
def SL (K : PySem.W.Frag) (W : Wd) (a : Addr) (xs : List T) (j : Option Nat) : Sl → Hp → Hp → G → Prop := fun σ H F g => ∃ vs, Reps W F vs xs ∧ SqL K H a vs ∧ (SqL K F a vs ∨ ∃ k t, j = some k ∧ g[k]? = some (Slot.lk t) ∧ σ[k]? = some (some (.ref a)) ∧ H a = some (.lst vs))
theorem SL.stable {K : PySem.W.Frag} {a : Addr} {xs : List T} {j : Option Nat} : ∀ {σ H F g σ' H' F' g'}, SL K W a xs j σ H F g → Keeps σ H F g σ' H' F' g' → SL K W a xs j σ' H' F' g' := by
  rintro σ H F g σ' H' F' g' ⟨vs, r, h, q⟩ k
  rcases q with q | ⟨i, t, e, q1, q2, q3⟩
  · exact ⟨vs, r.mono k.ff, (k.ff.trans k.fh).seq q, .inl (k.ff.seq q)⟩
  · obtain ⟨l1, l2, l3⟩ := k.lk i t q1
    have e3 := l3 a q2
    rw [q3] at e3
    exact ⟨vs, r.mono k.ff, .of e3, .inr ⟨i, t, e, l1, l2.trans q2, e3⟩⟩
theorem seq_list {a : Addr} {xs : List T} {j : Option Nat} {K : PySem.W.Frag} : Walkr W (Itl K a) xs (SL K W a xs j) where
  stable := SL.stable
  go := by
    rintro σ H F g i ⟨vs, r, h, _⟩ hi
    exact ⟨vs, vs[i]'(by rw [r.length]; exact hi), h, List.getElem?_eq_getElem _⟩
  stop := by
    rintro σ H F g i ⟨vs, r, h, _⟩ hi
    exact ⟨vs, h, by rw [r.length]; exact hi⟩
  yld := by
    rintro σ H F g i x H' ⟨vs, r, h, _⟩ sm hi ⟨e, y⟩
    subst e
    have e1 := y vs h
    obtain ⟨v, k1, k2⟩ := r.get (List.getElem?_eq_getElem hi)
    rw [e1] at k1; cases k1
    exact ⟨_, List.getElem?_eq_getElem hi, F, .flat sm k2⟩
/-- a tuple's content -/
def ST (W : Wd) (a : Addr) (xs : List T) : Sl → Hp → Hp → G → Prop := fun _ H F _ => ∃ vs, Reps W F vs xs ∧ F a = some (.tup vs) ∧ H a = some (.tup vs)
theorem ST.stable {a : Addr} {xs : List T} : ∀ {σ H F g σ' H' F' g'}, ST W a xs σ H F g → Keeps σ H F g σ' H' F' g' → ST W a xs σ' H' F' g' := by
  rintro σ H F g σ' H' F' g' ⟨vs, r, h, q⟩ k
  exact ⟨vs, r.mono k.ff, k.ff _ _ h, k.fh _ _ (k.ff _ _ h)⟩
theorem seq_tup {a : Addr} {xs : List T} {K : PySem.W.Frag} : Walkr W (Itt K a) xs (ST W a xs) where
  stable := ST.stable
  go := by
    rintro σ H F g i ⟨vs, r, h, h2⟩ hi
    exact ⟨vs, vs[i]'(by rw [r.length]; exact hi), .of h2, List.getElem?_eq_getElem _⟩
  stop := by
    rintro σ H F g i ⟨vs, r, h, h2⟩ hi
    exact ⟨vs, .of h2, by rw [r.length]; exact hi⟩
  yld := by
    rintro σ H F g i x H' ⟨vs, r, h, h2⟩ sm hi ⟨e, y⟩
    subst e
    have e1 := y vs (.of h2)
    obtain ⟨v, k1, k2⟩ := r.get (List.getElem?_eq_getElem hi)
    rw [e1] at k1; cases k1
    exact ⟨_, List.getElem?_eq_getElem hi, F, .flat sm k2⟩
/-- what a source is: a list in one of its ways, or a tuple -/
theorem src_ok {K : PySem.W.Frag} (hK : K = W.K) {e : CE} {σ : Sl} {H H1 F1 F : Hp} {g g1 : G} {x : T} {v : V} {xs : List T} (st : Sta W σ H F g) (hp : pre e (evX gl cl e) g = some (x, g1)) (x1 : ExE W σ H F g H1 F1 g1) (r1 : RPre W e σ F1 x v ∧ Cur W H1 F1 v x) (hx : x.items = some xs) :
    (isT x = false ∧ ∃ a vs, v = .ref a ∧ SqL K H1 a vs ∧ (isBoAt (slotIt e) g1 ∨ SL K W a xs (slotIt e) σ H1 F1 (lockG (slotIt e) g1))) ∨ (isT x = true ∧ ∃ a vs, v = .ref a ∧ SqT K H1 a vs ∧ ST W a xs σ H1 F1 (lockG (slotIt e) g1)) := by
  subst hK
  obtain ⟨rp, c⟩ := r1
  have frozen : Rep W F1 v x → ∀ g2, (isT x = false ∧ ∃ a vs, v = .ref a ∧ SqL W.K H1 a vs ∧ SL W.K W a xs (slotIt e) σ H1 F1 g2) ∨ (isT x = true ∧ ∃ a vs, v = .ref a ∧ SqT W.K H1 a vs ∧ ST W a xs σ H1 F1 g2) := by
    intro h g2
    cases x <;> simp [T.items] at hx <;> subst hx
    · obtain ⟨a, vs, rfl, h1, h2⟩ := h.tup_inv
      exact .inr ⟨rfl, a, vs, rfl, .of (x1.st.same _ _ h1), vs, h2, h1, x1.st.same _ _ h1⟩
    · obtain ⟨a, vs, rfl, h1, h2⟩ := h.lst_inv
      exact .inl ⟨rfl, a, vs, rfl, .of (x1.st.same _ _ h1), vs, h2, .of (x1.st.same _ _ h1), .inl (.of h1)⟩
    · cases h with
      | frl h1 h2 => exact .inl ⟨rfl, _, _, rfl, x1.st.same.seq h1, _, h2, x1.st.same.seq h1, .inl h1⟩
  cases e with
  | var j =>
    obtain ⟨rfl, s, k1, k2⟩ := peek_some hp
    have rp' : σ[j]? = some (some v) := rp
    rcases Slot.get_cases k2 with rfl | m
    · obtain ⟨v', h1, h2⟩ := x1.st.slot j _ k1
      rw [rp'] at h1; cases h1
      rcases frozen h2 (lockG (slotIt (.var j)) g1) with ⟨i, a, vs, h1, h2, h3⟩ | h
      · exact .inl ⟨i, a, vs, h1, h2, .inr h3⟩
      · exact .inr h
    · obtain ⟨a, o, h1, h2, h3, h4⟩ := (x1.st.slot j s k1).mine m
      rw [rp'] at h1; cases h1
      have : isT x = false ∧ ∃ vs, o = .lst vs ∧ Reps W F1 vs xs := by
        cases h4 with
        | lst h => simp [T.items] at hx; subst hx; exact ⟨rfl, _, rfl, h⟩
        | dK h => simp [T.items] at hx
        | dT h => simp [T.items] at hx
        | ins _ h => simp [T.items] at hx
      obtain ⟨hT, vs, rfl, hr⟩ := this
      refine .inl ⟨hT, a, vs, rfl, .of h3, ?_⟩
      cases s with
      | no => cases m
      | sh _ => cases m
      | bo t => exact .inl ⟨j, t, rfl, k1⟩
      | ow t =>
        refine .inr ⟨vs, hr, .of h3, .inr ⟨j, t, rfl, ?_, rp', h3⟩⟩
        simp only [lockG, slotIt, k1]
        exact set_get k1
      | lk t =>
        refine .inr ⟨vs, hr, .of h3, .inr ⟨j, t, rfl, ?_, rp', h3⟩⟩
        simp only [lockG, slotIt, k1]
  | _ =>
    rcases frozen rp g1 with ⟨i, a, vs, h1, h2, h3⟩ | h
    · exact .inl ⟨i, a, vs, h1, h2, .inr h3⟩
    · exact .inr h
theorem it_seq {tg e : Expr} {c : CE} (hK : X.K = W.K) (h : Sd W gl cl X e c) : PI X tg e (tI W gl cl (.seq c)) := by
  refine ((pi_list h.pre).or' (pi_tup h.pre)).mono' ?_
  rintro σ H R ⟨F, g, src, g', st, ev, q⟩
  simp only [evIt] at ev
  obtain ⟨x, g1, e1, f1⟩ := bind_some ev
  obtain ⟨xs, g2, e2, f2⟩ := bind_some f1
  obtain ⟨e3, rfl⟩ := lift_some e2
  cases pure_some f2
  cases hT : isT x with
  | true =>
    refine .inr ⟨F, g, _, _, st, e1, fun v H1 F1 x1 r1 => ?_⟩
    rcases src_ok hK st e1 x1 r1 e3 with ⟨t', _⟩ | ⟨_, a', vs, e', hs, hw⟩
    · rw [hT] at t'; cases t'
    · exact ⟨a', e', ⟨vs, hs⟩, q _ H1 F1 x1 (.inr ⟨_, seq_tup, hw⟩)⟩
  | false =>
    refine .inl ⟨F, g, _, _, st, e1, fun v H1 F1 x1 r1 => ?_⟩
    rcases src_ok hK st e1 x1 r1 e3 with ⟨_, a', vs, e', hs, hw⟩ | ⟨t', _⟩
    · refine ⟨a', e', ⟨vs, hs⟩, q _ H1 F1 x1 ?_⟩
      rcases hw with hw | hw
      · exact .inl hw
      · exact .inr ⟨_, seq_list, hw⟩
    · rw [hT] at t'; cases t'
/-! ### what is counted -/
def SZ : Sl → Hp → Hp → G → Prop := fun _ _ _ _ => True
theorem walk_rng {lo : Int} {n : Nat} : Walkr W (Itr lo n) ((List.range n).map fun k => .int (lo + (k : Nat))) SZ where
  stable := fun _ _ => trivial
  go := fun {_ _ _ _ i} _ h => by have h' : i < n := by simpa using h
                                  exact h'
  stop := fun {_ _ _ _ i} _ h => by have h' : n ≤ i := by simpa using h
                                    exact h'
  yld := by
    rintro σ H F g i x H' _ sm hi ⟨e, y⟩
    subst e y
    have h' : i < n := by simpa using hi
    exact ⟨.int (lo + (i : Nat)), by simp [h'], F, .flat sm (.int _)⟩
theorem walk_rngC {lo c : Int} {n : Nat} : Walkr W (Itc lo c n) ((List.range n).map fun k => .int (lo + (k : Nat) * c)) SZ where
  stable := fun _ _ => trivial
  go := fun {_ _ _ _ i} _ h => by have h' : i < n := by simpa using h
                                  exact h'
  stop := fun {_ _ _ _ i} _ h => by have h' : n ≤ i := by simpa using h
                                    exact h'
  yld := by
    rintro σ H F g i x H' _ sm hi ⟨e, y⟩
    subst e y
    have h' : i < n := by simpa using hi
    exact ⟨.int (lo + (i : Nat) * c), by simp [h'], F, .flat sm (.int _)⟩
theorem mid_iff {i : Int} : mid i = true ↔ -(2 ^ 60) < i ∧ i < 2 ^ 60 := lt60
theorem Reps.int1 {F : Hp} {vs : List V} {n : Int} (h : Reps W F vs [.int n]) : vs = [.int n] := by
  cases h with | cons a b => cases b; cases a; rfl
theorem Reps.int2 {F : Hp} {vs : List V} {n m : Int} (h : Reps W F vs [.int n, .int m]) : vs = [.int n, .int m] := by
  cases h with | cons a b => cases a; rw [b.int1]
theorem Reps.int3 {F : Hp} {vs : List V} {n m k : Int} (h : Reps W F vs [.int n, .int m, .int k]) : vs = [.int n, .int m, .int k] := by
  cases h with | cons a b => cases a; rw [b.int2]
theorem Reps.len1 {F : Hp} {v : V} {ts : List T} (h : Reps W F [v] ts) : ∃ t, ts = [t] := by
  cases h with | cons a b => cases b; exact ⟨_, rfl⟩
theorem rng_len1 {c : CE} {g g' : G} {ts : List T} (h : evKept gl cl [c] g = some (ts, g')) : ∃ t, ts = [t] := by
  simp only [evKept] at h
  obtain ⟨x, g1, e1, f1⟩ := bind_some h
  obtain ⟨xs, g2, e2, f2⟩ := bind_some f1
  cases pure_some e2
  cases pure_some f2
  exact ⟨_, rfl⟩
theorem rng_len2 {c d : CE} {g g' : G} {ts : List T} (h : evKept gl cl [c, d] g = some (ts, g')) : ∃ t u, ts = [t, u] := by
  rw [evKept] at h
  obtain ⟨x, g1, e1, f1⟩ := bind_some h
  obtain ⟨xs, g2, e2, f2⟩ := bind_some f1
  cases pure_some f2
  obtain ⟨t, rfl⟩ := rng_len1 e2
  exact ⟨_, _, rfl⟩
theorem rng_len3 {c d e : CE} {g g' : G} {ts : List T} (h : evKept gl cl [c, d, e] g = some (ts, g')) : ∃ t u w, ts = [t, u, w] := by
  rw [evKept] at h
  obtain ⟨x, g1, e1, f1⟩ := bind_some h
  obtain ⟨xs, g2, e2, f2⟩ := bind_some f1
  cases pure_some f2
  obtain ⟨t, u, rfl⟩ := rng_len2 e2
  exact ⟨_, _, _, rfl⟩
theorem it_rng1 {tg a : Expr} {p : Pos} {c : CE} (hg : Gl X "range") (hm : X.mg "range" = none) (ns : notStar a = true) (h : Sd W gl cl X a c) : PI X tg (.Call (.Name "range" p) [a] [] pos) (tI W gl cl (.rng [c])) := by
  refine (pi_range1 hg hm (pa_kept_cons ns h pa_kept_nil) (star_no ns)).mono' ?_
  rintro σ H R ⟨F, g, src, g', st, ev, q⟩
  simp only [evIt] at ev
  obtain ⟨ts, g1, e1, f1⟩ := bind_some ev
  obtain ⟨xs, g2, e2, f2⟩ := bind_some f1
  obtain ⟨e3, rfl⟩ := lift_some e2
  cases pure_some f2
  refine ⟨F, g, ts, _, st, e1, fun vs H1 F1 x1 r1 => ?_⟩
  obtain ⟨t, rfl⟩ := rng_len1 e1
  cases t <;> simp [rngOf, le7] at e3
  obtain ⟨⟨hm, hn⟩, rfl⟩ := e3
  rename_i n
  have hm := mid_iff.mp hm
  refine ⟨n, Reps.int1 r1, by omega, by omega, ?_⟩
  have w := walk_rng (W := W) (lo := 0) (n := n.toNat)
  simp only [Int.zero_add] at w
  exact q _ H1 F1 x1 (.inr ⟨_, w, trivial⟩)
theorem it_rng2 {tg a b : Expr} {p : Pos} {c d : CE} (hg : Gl X "range") (hm : X.mg "range" = none) (ns : notStar a = true) (ns2 : notStar b = true) (h : Sd W gl cl X a c) (h2 : Sd W gl cl X b d) : PI X tg (.Call (.Name "range" p) [a, b] [] pos) (tI W gl cl (.rng [c, d])) := by
  refine (pi_range2 hg hm (pa_kept_cons ns h (pa_kept_cons ns2 h2 pa_kept_nil)) ((star_no ns).trans (by rw [star_no ns2]; rfl)) (star_no ns2)).mono' ?_
  rintro σ H R ⟨F, g, src, g', st, ev, q⟩
  simp only [evIt] at ev
  obtain ⟨ts, g1, e1, f1⟩ := bind_some ev
  obtain ⟨xs, g2, e2, f2⟩ := bind_some f1
  obtain ⟨e3, rfl⟩ := lift_some e2
  cases pure_some f2
  refine ⟨F, g, ts, _, st, e1, fun vs H1 F1 x1 r1 => ?_⟩
  obtain ⟨t, u, rfl⟩ := rng_len2 e1
  cases t <;> cases u <;> simp [rngOf, le7] at e3
  obtain ⟨⟨⟨hm, hm2⟩, hn⟩, rfl⟩ := e3
  rename_i n m
  have hm := mid_iff.mp hm
  have hm2 := mid_iff.mp hm2
  refine ⟨n, m, Reps.int2 r1, ⟨by omega, by omega, by omega, by omega⟩, ?_⟩
  exact q _ H1 F1 x1 (.inr ⟨_, walk_rng, trivial⟩)
theorem it_rng3 {tg a b e : Expr} {p : Pos} {c d f : CE} (hg : Gl X "range") (hm : X.mg "range" = none) (ns : notStar a = true) (ns2 : notStar b = true) (ns3 : notStar e = true) (h : Sd W gl cl X a c) (h2 : Sd W gl cl X b d) (h3 : Sd W gl cl X e f) (hpl : (backTo pos (starEach [b, e] X.env)).any (·.1) = false) : PI X tg (.Call (.Name "range" p) [a, b, e] [] pos) (tI W gl cl (.rng [c, d, f])) := by
  refine (pi_range3 hg hm (pa_kept_cons ns h (pa_kept_cons ns2 h2 (pa_kept_cons ns3 h3 pa_kept_nil))) (star_no ns) hpl).mono' ?_
  rintro σ H R ⟨F, g, src, g', st, ev, q⟩
  simp only [evIt] at ev
  obtain ⟨ts, g1, e1, f1⟩ := bind_some ev
  obtain ⟨xs, g2, e2, f2⟩ := bind_some f1
  obtain ⟨e3, rfl⟩ := lift_some e2
  cases pure_some f2
  refine ⟨F, g, ts, _, st, e1, fun vs H1 F1 x1 r1 => ?_⟩
  obtain ⟨t, u, w, rfl⟩ := rng_len3 e1
  cases t <;> cases u <;> cases w <;> simp [rngOf, le7] at e3
  obtain ⟨⟨⟨⟨rfl, hm⟩, hm2⟩, hn⟩, rfl⟩ := e3
  rename_i n m
  have hm := mid_iff.mp hm
  have hm2 := mid_iff.mp hm2
  refine ⟨n, m, -1, (n - m).toNat, Reps.int3 r1, RgC.neg (by omega) (by omega) (by omega) (by omega), ?_⟩
  have w := walk_rngC (W := W) (lo := n) (c := -1) (n := (n - m).toNat)
  simp only [Int.mul_neg, Int.mul_one] at w
  exact q _ H1 F1 x1 (.inr ⟨_, w, trivial⟩)
/-! ### pairs -/
theorem enum_get {xs : List T} {i : Nat} {t : T} (h : xs[i]? = some t) : (enumOf xs)[i]? = some (.tup [.int (i : Nat), t]) := by
  have hi := (List.getElem?_eq_some_iff.mp h).1
  unfold enumOf
  rw [List.getElem?_map, (List.getElem?_zip_eq_some (z := (i, t))).mpr ⟨by simp [hi], h⟩]
  rfl
theorem enum_len {xs : List T} : (enumOf xs).length = xs.length := by simp [enumOf]
theorem walk_enum {K : PySem.W.Frag} {a : Addr} {xs : List T} {j : Option Nat} : Walkr W (Ite K a) (enumOf xs) (SL K W a xs j) where
  stable := SL.stable
  go := by
    rintro σ H F g i ⟨vs, r, h, _⟩ hi
    rw [enum_len] at hi
    exact ⟨vs, vs[i]'(by rw [r.length]; exact hi), h, List.getElem?_eq_getElem _⟩
  stop := by
    rintro σ H F g i ⟨vs, r, h, _⟩ hi
    rw [enum_len] at hi
    exact ⟨vs, h, by rw [r.length]; exact hi⟩
  yld := by
    rintro σ H F g i x H' ⟨vs, r, h, _⟩ sm hi ⟨T, y, rfl, hT, rfl, e⟩
    rw [enum_len] at hi
    have e1 := e vs h
    obtain ⟨v, k1, k2⟩ := r.get (List.getElem?_eq_getElem hi)
    rw [e1] at k1; cases k1
    exact ⟨_, enum_get (List.getElem?_eq_getElem hi), _, .newTup sm hT (.cons (.int _) (.cons k2 .nil))⟩
theorem it_enum {a : Expr} {p tp : Pos} {es : List Expr} {kk : Nat} {c : CE} (hK : X.K = W.K) (hg : Gl X "enumerate") (hm : X.mg "enumerate" = none) (ns : notStar a = true) (h : Sd W gl cl X a c) : PI X (.Tuple es kk tp) (.Call (.Name "enumerate" p) [a] [] pos) (tI W gl cl (.enum c)) := by
  refine (pi_enum hg hm (pa_cons h.pre pa_nil (star_no ns)) (star_no ns)).mono' ?_
  rintro σ H R ⟨F, g, src, g', st, ev, q⟩
  simp only [evIt] at ev
  obtain ⟨x, g1, e1, f1⟩ := bind_some ev
  obtain ⟨_, g2, e2, f2⟩ := bind_some f1
  obtain ⟨hT, rfl⟩ := ask_some e2
  obtain ⟨xs, g3, e4, f3⟩ := bind_some f2
  obtain ⟨e5, rfl⟩ := lift_some e4
  cases pure_some f3
  refine ⟨F, g, _, _, st, e1, fun v H1 F1 x1 r1 => ?_⟩
  rcases src_ok hK st e1 x1 r1 e5 with ⟨_, a', vs, e', hs, hw⟩ | ⟨t', _⟩
  · refine ⟨a', vs, by rw [e'], hs, q _ H1 F1 x1 ?_⟩
    rcases hw with hw | hw
    · exact .inl hw
    · exact .inr ⟨_, walk_enum, hw⟩
  · rw [t'] at hT; cases hT
theorem zip_get {xs ys : List T} {i : Nat} {t u : T} (h : xs[i]? = some t) (h2 : ys[i]? = some u) : (zipOf xs ys)[i]? = some (.tup [t, u]) := by
  unfold zipOf
  rw [List.getElem?_map, (List.getElem?_zip_eq_some (z := (t, u))).mpr ⟨h, h2⟩]
  rfl
theorem zip_len {xs ys : List T} : (zipOf xs ys).length = min xs.length ys.length := by simp [zipOf]
theorem zip_at {xs ys : List T} {i : Nat} (h : i < (zipOf xs ys).length) : ∃ t u, xs[i]? = some t ∧ ys[i]? = some u := by
  rw [zip_len] at h
  exact ⟨xs[i]'(by omega), ys[i]'(by omega), List.getElem?_eq_getElem _, List.getElem?_eq_getElem _⟩
def SZ2 (W : Wd) (P : Hp → Addr → List V → Prop) (a b : Addr) (xs ys : List T) : Sl → Hp → Hp → G → Prop := fun _ H F _ => Same F H ∧ ∃ vs ws, Reps W F vs xs ∧ Reps W F ws ys ∧ P F a vs ∧ P F b ws
theorem SZ2.stable {P : Hp → Addr → List V → Prop} {a b : Addr} {xs ys : List T} (mo : ∀ {F F' : Hp} {a : Addr} {vs : List V}, Same F F' → P F a vs → P F' a vs) : ∀ {σ H F g σ' H' F' g'}, SZ2 W P a b xs ys σ H F g → Keeps σ H F g σ' H' F' g' → SZ2 W P a b xs ys σ' H' F' g' := by
  rintro σ H F g σ' H' F' g' ⟨sm, vs, ws, r1, r2, h1, h2⟩ k
  exact ⟨k.fh, vs, ws, r1.mono k.ff, r2.mono k.ff, mo k.ff h1, mo k.ff h2⟩
theorem walk_zipL {K : PySem.W.Frag} {a b : Addr} {xs ys : List T} : Walkr W (Itz K a b) (zipOf xs ys) (SZ2 W (SqL K) a b xs ys) where
  stable := SZ2.stable (P := SqL K) (fun s h => s.seq h)
  go := by
    rintro σ H F g i ⟨sm, vs, ws, r1, r2, h1, h2⟩ hi
    obtain ⟨t, u, e1, e2⟩ := zip_at hi
    obtain ⟨v, k1, _⟩ := r1.get e1
    obtain ⟨w, k2, _⟩ := r2.get e2
    exact ⟨vs, ws, v, w, sm.seq h1, sm.seq h2, k1, k2⟩
  stop := by
    rintro σ H F g i ⟨sm, vs, ws, r1, r2, h1, h2⟩ hi
    rw [zip_len] at hi
    refine ⟨vs, ws, sm.seq h1, sm.seq h2, ?_⟩
    rw [r1.length, r2.length]; omega
  yld := by
    rintro σ H F g i x H' ⟨_, vs, ws, r1, r2, h1, h2⟩ sm hi ⟨T, y, z, rfl, hT, rfl, e, e'⟩
    obtain ⟨t, u, t1, t2⟩ := zip_at hi
    have e1 := e vs (sm.seq h1)
    have e2 := e' ws (sm.seq h2)
    obtain ⟨v, k1, q1⟩ := r1.get t1
    obtain ⟨w, k2, q2⟩ := r2.get t2
    rw [e1] at k1; cases k1
    rw [e2] at k2; cases k2
    exact ⟨_, zip_get t1 t2, _, .newTup sm hT (.cons q1 (.cons q2 .nil))⟩
theorem walk_zipT {K : PySem.W.Frag} {a b : Addr} {xs ys : List T} : Walkr W (RZ.ItzT K a b) (zipOf xs ys) (SZ2 W (SqT K) a b xs ys) where
  stable := SZ2.stable (P := SqT K) (fun s h => PV.Same.sqt s h)
  go := by
    rintro σ H F g i ⟨sm, vs, ws, r1, r2, h1, h2⟩ hi
    obtain ⟨t, u, e1, e2⟩ := zip_at hi
    obtain ⟨v, k1, _⟩ := r1.get e1
    obtain ⟨w, k2, _⟩ := r2.get e2
    exact ⟨vs, ws, v, w, (PV.Same.sqt sm h1), (PV.Same.sqt sm h2), k1, k2⟩
  stop := by
    rintro σ H F g i ⟨sm, vs, ws, r1, r2, h1, h2⟩ hi
    rw [zip_len] at hi
    refine ⟨vs, ws, (PV.Same.sqt sm h1), (PV.Same.sqt sm h2), ?_⟩
    rw [r1.length, r2.length]; omega
  yld := by
    rintro σ H F g i x H' ⟨_, vs, ws, r1, r2, h1, h2⟩ sm hi ⟨T, y, z, rfl, hT, rfl, e, e'⟩
    obtain ⟨t, u, t1, t2⟩ := zip_at hi
    have e1 := e vs ((PV.Same.sqt sm h1))
    have e2 := e' ws ((PV.Same.sqt sm h2))
    obtain ⟨v, k1, q1⟩ := r1.get t1
    obtain ⟨w, k2, q2⟩ := r2.get t2
    rw [e1] at k1; cases k1
    rw [e2] at k2; cases k2
    exact ⟨_, zip_get t1 t2, _, .newTup sm hT (.cons q1 (.cons q2 .nil))⟩
theorem it_zip {a b : Expr} {p tp : Pos} {es : List Expr} {kk : Nat} {c d : CE} (hK : X.K = W.K) (hg : Gl X "zip") (hm : X.mg "zip" = none) (ns : notStar a = true) (ns2 : notStar b = true) (h : Sd W gl cl X a c) (h2 : Sd W gl cl X b d) (hpl : (backTo pos (starEach [b] X.env)).any (·.1) = false) : PI X (.Tuple es kk tp) (.Call (.Name "zip" p) [a, b] [] pos) (tI W gl cl (.zip [c, d])) := by
  refine (RZ.pi_zipA hg hm (pa_kept_cons ns h (pa_kept_cons ns2 h2 pa_kept_nil)) (star_no ns) hpl).mono' ?_
  rintro σ H R ⟨F, g, src, g', st, ev, q⟩
  simp only [evIt] at ev
  obtain ⟨ts, g1, e1, f1⟩ := bind_some ev
  refine ⟨F, g, ts, g1, st, e1, fun vs H1 F1 x1 r1 => ?_⟩
  rw [hK]
  split at f1
  · rename_i xs ys
    cases pure_some f1
    cases r1 with
    | cons ra rb =>
      cases rb with
      | cons rb rc =>
        cases rc
        obtain ⟨a', v1, rfl, k1, k2⟩ := ra.lst_inv
        obtain ⟨b', v2, rfl, l1, l2⟩ := rb.lst_inv
        have sm := x1.st.same
        exact ⟨a', b', v1, v2, rfl, .inl ⟨.of (sm _ _ k1), .of (sm _ _ l1), q _ H1 F1 x1 (.inr ⟨_, walk_zipL, sm, v1, v2, k2, l2, .of k1, .of l1⟩)⟩⟩
  · rename_i xs ys
    cases pure_some f1
    cases r1 with
    | cons ra rb =>
      cases rb with
      | cons rb rc =>
        cases rc
        obtain ⟨a', v1, rfl, k1, k2⟩ := ra.tup_inv
        obtain ⟨b', v2, rfl, l1, l2⟩ := rb.tup_inv
        have sm := x1.st.same
        exact ⟨a', b', v1, v2, rfl, .inr ⟨.of (sm _ _ k1), .of (sm _ _ l1), q _ H1 F1 x1 (.inr ⟨_, walk_zipT, sm, v1, v2, k2, l2, .of k1, .of l1⟩)⟩⟩
  · cases f1
end
end PV

/-! PV19: own slots set apart, a walked slot locked, an object put aside -/
namespace PV
open PySem PySem.Spec PyProof.Rows L2
def Shr (g g' : G) : Prop := ∀ (i : Nat) (t' : T), g'[i]? = some (Slot.ow t') → ∃ t : T, g[i]? = some (Slot.ow t)
theorem Shr.refl (g : G) : Shr g g := fun _ t h => ⟨t, h⟩
theorem Shr.trans {g g1 g2 : G} (a : Shr g g1) (b : Shr g1 g2) : Shr g g2 := fun i t h => by
  obtain ⟨t1, h1⟩ := b i t h
  exact a i t1 h1
/-! ### own slots -/
theorem wipe_in {σ : Sl} {i : Nat} : ∀ {vs : List Nat}, i ∈ vs → i < σ.length → (wipe σ vs)[i]? = some none
  | v :: vs, h, hi => by
    unfold wipe
    by_cases e : v = i
    · subst e
      exact List.getElem?_set_self (by rw [wipe_length]; exact hi)
    · rw [List.getElem?_set_ne e]
      exact wipe_in (by rcases List.mem_cons.mp h with q | q; exact absurd q.symm e; exact q) hi
theorem wipeOwn_len (g : G) : ∀ vs : List Nat, (wipeOwn g vs).length = g.length
  | [] => rfl
  | v :: vs => by unfold wipeOwn; rw [List.length_set, wipeOwn_len g vs]
theorem wipeOwn_in {g : G} {i : Nat} : ∀ {vs : List Nat}, i ∈ vs → i < g.length → (wipeOwn g vs)[i]? = some Slot.no
  | v :: vs, h, hi => by
    unfold wipeOwn
    by_cases e : v = i
    · subst e
      exact List.getElem?_set_self (by rw [wipeOwn_len]; exact hi)
    · rw [List.getElem?_set_ne e]
      exact wipeOwn_in (by rcases List.mem_cons.mp h with q | q; exact absurd q.symm e; exact q) hi
theorem wipeOwn_out {g : G} {i : Nat} : ∀ {vs : List Nat}, i ∉ vs → (wipeOwn g vs)[i]? = g[i]?
  | [], _ => rfl
  | v :: vs, h => by
    unfold wipeOwn
    rw [List.getElem?_set_ne (fun e => h (by rw [e]; exact List.mem_cons_self))]
    exact wipeOwn_out fun m => h (List.mem_cons_of_mem _ m)
theorem wipeOwn_get {g : G} {i : Nat} {s : Slot} {vs : List Nat} (h : (wipeOwn g vs)[i]? = some s) : s = .no ∨ (i ∉ vs ∧ g[i]? = some s) := by
  by_cases hi : i ∈ vs
  · by_cases hl : i < g.length
    · rw [wipeOwn_in hi hl] at h; cases h; exact .inl rfl
    · rw [List.getElem?_eq_none (by rw [wipeOwn_len]; omega)] at h; cases h
  · rw [wipeOwn_out hi] at h; exact .inr ⟨hi, h⟩
theorem restore_len (g0 g : G) : ∀ vs : List Nat, (restore g0 g vs).length = g.length
  | [] => rfl
  | v :: vs => by unfold restore; rw [List.length_set, restore_len g0 g vs]
theorem restore_in {g0 g : G} {i : Nat} : ∀ {vs : List Nat}, i ∈ vs → i < g.length → i < g0.length → (restore g0 g vs)[i]? = g0[i]?
  | v :: vs, h, hi, h0 => by
    unfold restore
    by_cases e : v = i
    · subst e
      rw [List.getElem?_set_self (by rw [restore_len]; exact hi), List.getElem?_eq_getElem h0]
      rfl
    · rw [List.getElem?_set_ne e]
      exact restore_in (by rcases List.mem_cons.mp h with q | q; exact absurd q.symm e; exact q) hi h0
theorem restore_out {g0 g : G} {i : Nat} : ∀ {vs : List Nat}, i ∉ vs → (restore g0 g vs)[i]? = g[i]?
  | [], _ => rfl
  | v :: vs, h => by
    unfold restore
    rw [List.getElem?_set_ne (fun e => h (by rw [e]; exact List.mem_cons_self))]
    exact restore_out fun m => h (List.mem_cons_of_mem _ m)
theorem ownFree_at {g : G} {vs : List Nat} (h : ownFree g vs = true) {i : Nat} (hi : i ∈ vs) : ∃ s, g[i]? = some s ∧ (s = .no ∨ ∃ t, s = .sh t) := by
  have q := List.all_eq_true.mp h i hi
  split at q
  · rename_i e; exact ⟨_, e, .inl rfl⟩
  · rename_i e; exact ⟨_, e, .inr ⟨_, rfl⟩⟩
  · cases q
section
variable {W : Wd} {σ σ' : Sl} {H F H' F' : Hp} {g g' : G}
/-- slots that nobody lent are forgotten -/
theorem Sta.wipe (st : Sta W σ H F g) (vs : List Nat) (h : ∀ i ∈ vs, ∀ s, g[i]? = some s → (∀ t, s ≠ .bo t) ∧ ∀ t, s ≠ .lk t) : Ext W σ H F g (L2.wipe σ vs) H F (wipeOwn g vs) ∧ Shr g (wipeOwn g vs) := by
  have out : ∀ {i : Nat} {s : Slot}, (wipeOwn g vs)[i]? = some s → s ≠ .no → i ∉ vs ∧ g[i]? = some s ∧ (L2.wipe σ vs)[i]? = σ[i]? := fun {i s} e n => by
    rcases wipeOwn_get e with q | ⟨q1, q2⟩
    · exact absurd q n
    · exact ⟨q1, q2, wipe_out q1⟩
  have nb : ∀ {i : Nat} {s : Slot}, g[i]? = some s → ((∃ t, s = .bo t) ∨ ∃ t, s = .lk t) → i ∉ vs := fun {i s} e k m => by
    obtain ⟨a, b⟩ := h i m s e
    rcases k with ⟨t, k⟩ | ⟨t, k⟩
    · exact a t k
    · exact b t k
  refine ⟨⟨⟨st.same, fun i s e => ?_, fun i j a s s' t t' e1 e2 m1 m2 z1 z2 => ?_, by rw [wipeOwn_len, wipe_length]; exact st.len⟩, Same.refl _, fun _ _ h _ => h, fun _ o h => ⟨o, h⟩, fun a m => ?_, fun _ _ h => .inl h, fun i => ⟨?_, ?_⟩, fun i t e => ?_, fun i t => ⟨fun e => ?_, fun e => ?_⟩, fun i t e => ?_⟩, fun i t e => ?_⟩
  · cases s with
    | no => trivial
    | sh t =>
      obtain ⟨_, e1, e2⟩ := out e (by simp)
      obtain ⟨v, h1, h2⟩ := st.slot i _ e1
      exact ⟨v, by rw [e2]; exact h1, h2⟩
    | ow t =>
      obtain ⟨_, e1, e2⟩ := out e (by simp)
      obtain ⟨a, o, h1, h2, h3, h4⟩ := (st.slot i _ e1).mine rfl
      exact .of_mine (t := t) rfl (by rw [e2]; exact h1) h2 h3 h4
    | bo t =>
      obtain ⟨_, e1, e2⟩ := out e (by simp)
      obtain ⟨a, o, h1, h2, h3, h4⟩ := (st.slot i _ e1).mine rfl
      exact .of_mine (t := t) rfl (by rw [e2]; exact h1) h2 h3 h4
    | lk t =>
      obtain ⟨_, e1, e2⟩ := out e (by simp)
      obtain ⟨a, o, h1, h2, h3, h4⟩ := (st.slot i _ e1).mine rfl
      exact .of_mine (t := t) rfl (by rw [e2]; exact h1) h2 h3 h4
  · have n1 : s ≠ .no := fun z => by rw [z] at m1; cases m1
    have n2 : s' ≠ .no := fun z => by rw [z] at m2; cases m2
    obtain ⟨_, a1, a2⟩ := out e1 n1
    obtain ⟨_, b1, b2⟩ := out e2 n2
    rw [a2] at z1; rw [b2] at z2
    exact st.apart i j a s s' t t' a1 b1 m1 m2 z1 z2
  · obtain ⟨i, t, e, z⟩ := m
    obtain ⟨_, e1, e2⟩ := out e (by simp)
    exact .inl ⟨i, t, e1, by rw [← e2]; exact z⟩
  · rintro ⟨t, e⟩
    exact ⟨t, by rw [wipeOwn_out (nb e (.inl ⟨t, rfl⟩))]; exact e⟩
  · rintro ⟨t, e⟩
    exact ⟨t, (out e (by simp)).2.1⟩
  · exact wipe_out (nb e (.inl ⟨t, rfl⟩))
  · rw [wipeOwn_out (nb e (.inr ⟨t, rfl⟩))]; exact e
  · exact (out e (by simp)).2.1
  · exact wipe_out (nb e (.inr ⟨t, rfl⟩))
  · exact ⟨t, (out e (by simp)).2.1⟩
/-- .. and come back -/
theorem Ext.unwipe {vs : List Nat} (st : Sta W σ H F g) (of : ownFree g vs = true) (x : Ext W (L2.wipe σ vs) H F (wipeOwn g vs) (L2.wipe σ vs) H' F' g') (sh : Shr (wipeOwn g vs) g') : ExE W σ H F g H' F' (restore g g' vs) := by
  have l1 : g'.length = g.length := by rw [x.st.len, wipe_length]; exact st.len.symm
  have inn : ∀ {i : Nat}, i ∈ vs → (restore g g' vs)[i]? = g[i]? := fun {i} hi => by
    obtain ⟨s, e, _⟩ := ownFree_at of hi
    have hl := (List.getElem?_eq_some_iff.mp e).1
    exact restore_in hi (by omega) hl
  have out : ∀ {i : Nat} {s : Slot} {t : T}, (restore g g' vs)[i]? = some s → s.mineT = some t → i ∉ vs ∧ g'[i]? = some s := fun {i s t} e m => by
    by_cases hi : i ∈ vs
    · rw [inn hi] at e
      obtain ⟨s', e', k⟩ := ownFree_at of hi
      rw [e] at e'; cases e'
      rcases k with rfl | ⟨t, rfl⟩ <;> cases m
    · rw [restore_out hi] at e; exact ⟨hi, e⟩
  have gout : ∀ {i : Nat} {s : Slot} {t : T}, g[i]? = some s → s.mineT = some t → i ∉ vs ∧ (wipeOwn g vs)[i]? = some s := fun {i s t} e m => by
    by_cases hi : i ∈ vs
    · obtain ⟨s', e', k⟩ := ownFree_at of hi
      rw [e] at e'; cases e'
      rcases k with rfl | ⟨t, rfl⟩ <;> cases m
    · exact ⟨hi, by rw [wipeOwn_out hi]; exact e⟩
  have wg : ∀ {i : Nat} {s : Slot} {t : T}, (wipeOwn g vs)[i]? = some s → s.mineT = some t → i ∉ vs ∧ g[i]? = some s := fun {i s t} e m => by
    rcases wipeOwn_get e with q | q
    · rw [q] at m; cases m
    · exact q
  refine ⟨⟨⟨x.st.same, fun i s e => ?_, fun i j a s s' t t' e1 e2 m1 m2 z1 z2 => ?_, by rw [restore_len, l1]; exact st.len⟩, x.mono, fun a o ha n => x.keep a o ha fun ⟨i, s, t, e, m, z⟩ => n ?_, x.dom, fun a m => ?_, fun a o e => ?_, fun i => ⟨?_, ?_⟩, fun _ _ _ => rfl, fun i t => ⟨fun e => ?_, fun e => ?_⟩, fun _ _ _ => rfl⟩, fun i t e => ?_⟩
  · cases hm : s.mineT with
    | some t =>
      obtain ⟨n, e1⟩ := out e hm
      obtain ⟨a, o, h1, h2, h3, h4⟩ := (x.st.slot i _ e1).mine hm
      rw [wipe_out n] at h1
      exact .of_mine hm h1 h2 h3 h4
    | none =>
      cases s with
      | no => trivial
      | sh t =>
        by_cases hi : i ∈ vs
        · rw [inn hi] at e
          obtain ⟨v, h1, h2⟩ := st.slot i _ e
          exact ⟨v, h1, h2.mono x.mono⟩
        · rw [restore_out hi] at e
          obtain ⟨v, h1, h2⟩ := x.st.slot i _ e
          rw [wipe_out hi] at h1
          exact ⟨v, h1, h2⟩
      | _ => cases hm
  · obtain ⟨n1, k1⟩ := out e1 m1
    obtain ⟨n2, k2⟩ := out e2 m2
    exact x.st.apart i j a s s' t t' k1 k2 m1 m2 (by rw [wipe_out n1]; exact z1) (by rw [wipe_out n2]; exact z2)
  · obtain ⟨n1, k1⟩ := wg e (Slot.mine_of_mut m)
    rw [wipe_out n1] at z
    exact ⟨i, s, t, k1, m, z⟩
  · obtain ⟨i, t, e, z⟩ := m
    obtain ⟨n1, k1⟩ := out e (t := t) rfl
    rcases x.ownO a ⟨i, t, k1, by rw [wipe_out n1]; exact z⟩ with ⟨j, u, q1, q2⟩ | q
    · obtain ⟨n2, k2⟩ := wg q1 (t := u) rfl
      rw [wipe_out n2] at q2
      exact .inl ⟨j, u, k2, q2⟩
    · exact .inr q
  · rcases x.newF a o e with q | q | ⟨j, u, q1, q2⟩
    · exact .inl q
    · exact .inr (.inl q)
    · obtain ⟨n2, k2⟩ := wg q1 (t := u) rfl
      rw [wipe_out n2] at q2
      exact .inr (.inr ⟨j, u, k2, q2⟩)
  · rintro ⟨t, e⟩
    obtain ⟨n, k⟩ := gout e (t := t) rfl
    obtain ⟨u, q⟩ := (x.bor i).mp ⟨t, k⟩
    exact ⟨u, by rw [restore_out n]; exact q⟩
  · rintro ⟨t, e⟩
    obtain ⟨n, k⟩ := out e (t := t) rfl
    obtain ⟨u, q⟩ := (x.bor i).mpr ⟨t, k⟩
    exact ⟨u, (wg q (t := u) rfl).2⟩
  · obtain ⟨n, k⟩ := gout e (t := t) rfl
    rw [restore_out n]
    exact (x.lck i t).mp k
  · obtain ⟨n, k⟩ := out e (t := t) rfl
    exact (wg ((x.lck i t).mpr k) (t := t) rfl).2
  · obtain ⟨n, k⟩ := out e (t := t) rfl
    obtain ⟨u, q⟩ := sh i t k
    exact ⟨u, (wg q (t := u) rfl).2⟩
theorem within_some {own : List Nat} {α : Type} {m : M α} {g g' : G} {a : α} (h : within own m g = some (a, g')) : ownFree g own = true ∧ ∃ g1, m (wipeOwn g own) = some (a, g1) ∧ g' = restore g g1 own := by
  unfold within at h
  split at h
  · rename_i of
    split at h
    · rename_i b g1 e
      cases h
      exact ⟨of, g1, e, rfl⟩
    · cases h
  · cases h
/-! ### a slot that is walked -/
def unlockG (j : Option Nat) (g g' : G) : G := match j with
  | none => g'
  | some j => match g[j]? with
    | some (.ow t) => g'.set j (.ow t)
    | _ => g'
theorem during_some {j : Option Nat} {α : Type} {m : M α} {g g' : G} {a : α} (h : during j m g = some (a, g')) : ¬ isBoAt j g ∧ ∃ g1, m (lockG j g) = some (a, g1) ∧ g' = unlockG j g g1 := by
  unfold during at h
  cases j with
  | none =>
    refine ⟨?_, g', h, rfl⟩
    rintro ⟨_, _, e, _⟩
    cases e
  | some j =>
    simp only at h
    split at h
    · rename_i t e
      split at h
      · rename_i b g1 e1
        cases h
        refine ⟨fun ⟨k, u, e2, e3⟩ => ?_, g1, ?_, ?_⟩
        · cases e2; rw [e] at e3; cases e3
        · simp only [lockG, e]; exact e1
        · simp only [unlockG, e]
      · cases h
    · cases h
    · rename_i n1 n2
      refine ⟨fun ⟨k, u, e2, e3⟩ => ?_, g', ?_, ?_⟩
      · cases e2; exact n2 u e3
      · have : lockG (some j) g = g := by
          simp only [lockG]
        rw [this]; exact h
      · simp only [unlockG]
theorem Sta.lock (st : Sta W σ H F g) (j : Option Nat) : Sta W σ H F (lockG j g) := by
  unfold lockG
  split
  · exact st
  · rename_i j
    split
    · rename_i t e
      have hh : ∀ {i : Nat} {s : Slot}, (g.set j (.lk t))[i]? = some s → ∃ s', g[i]? = some s' ∧ (s' = s ∨ (s'.mineT = some t ∧ s.mineT = some t)) := fun {i s} h => by
        rcases get_set h with ⟨rfl, rfl⟩ | ⟨_, q⟩
        · exact ⟨_, e, .inr ⟨rfl, rfl⟩⟩
        · exact ⟨_, q, .inl rfl⟩
      refine ⟨st.same, fun i s h => ?_, fun i k a s s' u u' e1 e2 m1 m2 z1 z2 => ?_, by rw [List.length_set]; exact st.len⟩
      · obtain ⟨s', q1, q2⟩ := hh h
        rcases q2 with rfl | ⟨q2, q3⟩
        · exact st.slot i _ q1
        · obtain ⟨a, o, h1, h2, h3, h4⟩ := (st.slot i _ q1).mine q2
          exact .of_mine q3 h1 h2 h3 h4
      · obtain ⟨s1, q1, q2⟩ := hh e1
        obtain ⟨s2, r1, r2⟩ := hh e2
        have k1 : ∃ w, s1.mineT = some w := by
          rcases q2 with rfl | ⟨q2, q3⟩
          · exact ⟨_, m1⟩
          · exact ⟨_, q2⟩
        have k2 : ∃ w, s2.mineT = some w := by
          rcases r2 with rfl | ⟨r2, r3⟩
          · exact ⟨_, m2⟩
          · exact ⟨_, r2⟩
        obtain ⟨w1, k1⟩ := k1
        obtain ⟨w2, k2⟩ := k2
        exact st.apart i k a s1 s2 w1 w2 q1 r1 k1 k2 z1 z2
    · exact st
theorem Ext.unlock {j : Option Nat} (st : Sta W σ H F g) (x : Ext W σ H F (lockG j g) σ' H' F' g') : Ext W σ H F g σ' H' F' (unlockG j g g') := by
  cases j with
  | none => exact x
  | some j =>
    cases e : g[j]? with
    | none => simp only [lockG, unlockG, e] at x ⊢; exact x
    | some s0 =>
      cases s0 with
      | ow t =>
        simp only [lockG, unlockG, e] at x ⊢
        have lj : (g.set j (Slot.lk t))[j]? = some (.lk t) := set_get e
        have gj : g'[j]? = some (.lk t) := (x.lck j t).mp lj
        have sj : σ'[j]? = σ[j]? := x.lckS j t lj
        have out : ∀ {i : Nat} {s : Slot}, (g'.set j (Slot.ow t))[i]? = some s → (i = j ∧ s = .ow t) ∨ (i ≠ j ∧ g'[i]? = some s) := fun {i s} h => by
          rcases get_set h with ⟨a, b⟩ | ⟨a, b⟩
          · exact .inl ⟨a.symm, b⟩
          · exact .inr ⟨fun z => a z.symm, b⟩
        have lo : ∀ {i : Nat} {s : Slot}, (g.set j (Slot.lk t))[i]? = some s → (i = j ∧ s = .lk t) ∨ (i ≠ j ∧ g[i]? = some s) := fun {i s} h => by
          rcases get_set h with ⟨a, b⟩ | ⟨a, b⟩
          · exact .inl ⟨a.symm, b⟩
          · exact .inr ⟨fun z => a z.symm, b⟩
        have hh : ∀ {i : Nat} {s : Slot}, (g'.set j (.ow t))[i]? = some s → ∃ s', g'[i]? = some s' ∧ (s' = s ∨ (s'.mineT = some t ∧ s.mineT = some t)) := fun {i s} h => by
          rcases out h with ⟨rfl, rfl⟩ | ⟨_, q⟩
          · exact ⟨_, gj, .inr ⟨rfl, rfl⟩⟩
          · exact ⟨_, q, .inl rfl⟩
        refine ⟨⟨x.st.same, fun i s h => ?_, fun i k a s s' u u' e1 e2 m1 m2 z1 z2 => ?_, by rw [List.length_set]; exact x.st.len⟩, x.mono, fun a o ha n => x.keep a o ha fun ⟨i, s, u, q, m, z⟩ => n ?_, x.dom, fun a m => ?_, fun a o e' => ?_, fun i => ⟨?_, ?_⟩, fun i u q => ?_, fun i u => ⟨fun q => ?_, fun q => ?_⟩, fun i u q => ?_⟩
        · obtain ⟨s', q1, q2⟩ := hh h
          rcases q2 with rfl | ⟨q2, q3⟩
          · exact x.st.slot i _ q1
          · obtain ⟨a, o, h1, h2, h3, h4⟩ := (x.st.slot i _ q1).mine q2
            exact .of_mine q3 h1 h2 h3 h4
        · obtain ⟨s1, q1, q2⟩ := hh e1
          obtain ⟨s2, r1, r2⟩ := hh e2
          have k1 : ∃ w, s1.mineT = some w := by
            rcases q2 with rfl | ⟨q2, q3⟩
            · exact ⟨_, m1⟩
            · exact ⟨_, q2⟩
          have k2 : ∃ w, s2.mineT = some w := by
            rcases r2 with rfl | ⟨r2, r3⟩
            · exact ⟨_, m2⟩
            · exact ⟨_, r2⟩
          obtain ⟨w1, k1⟩ := k1
          obtain ⟨w2, k2⟩ := k2
          exact x.st.apart i k a s1 s2 w1 w2 q1 r1 k1 k2 z1 z2
        · rcases lo q with ⟨rfl, rfl⟩ | ⟨_, q⟩
          · cases m
          · exact ⟨i, s, u, q, m, z⟩
        · obtain ⟨i, u, q, z⟩ := m
          rcases out q with ⟨rfl, h1⟩ | ⟨_, q⟩
          · exact .inl ⟨i, t, e, by rw [← sj]; exact z⟩
          · rcases x.ownO a ⟨i, u, q, z⟩ with ⟨k, w, q1, q2⟩ | q
            · rcases lo q1 with ⟨rfl, h1⟩ | ⟨_, q1⟩
              · cases h1
              · exact .inl ⟨k, w, q1, q2⟩
            · exact .inr q
        · rcases x.newF a o e' with q | q | ⟨k, w, q1, q2⟩
          · exact .inl q
          · exact .inr (.inl q)
          · rcases lo q1 with ⟨rfl, h1⟩ | ⟨_, q1⟩
            · cases h1
            · exact .inr (.inr ⟨k, w, q1, q2⟩)
        · rintro ⟨u, q⟩
          have ne : i ≠ j := fun z => by rw [z, e] at q; cases q
          obtain ⟨w, r⟩ := (x.bor i).mp ⟨u, by rw [set_get_ne (Ne.symm ne)]; exact q⟩
          exact ⟨w, by rw [set_get_ne (Ne.symm ne)]; exact r⟩
        · rintro ⟨u, q⟩
          rcases out q with ⟨rfl, h1⟩ | ⟨ne, q⟩
          · cases h1
          · obtain ⟨w, r⟩ := (x.bor i).mpr ⟨u, q⟩
            rw [set_get_ne (Ne.symm ne)] at r
            exact ⟨w, r⟩
        · have ne : i ≠ j := fun z => by rw [z, e] at q; cases q
          exact x.borS i u (by rw [set_get_ne (Ne.symm ne)]; exact q)
        · have ne : i ≠ j := fun z => by rw [z, e] at q; cases q
          rw [set_get_ne (Ne.symm ne)]
          exact (x.lck i u).mp (by rw [set_get_ne (Ne.symm ne)]; exact q)
        · rcases out q with ⟨rfl, h1⟩ | ⟨ne, q⟩
          · cases h1
          · have r := (x.lck i u).mpr q
            rw [set_get_ne (Ne.symm ne)] at r
            exact r
        · have ne : i ≠ j := fun z => by rw [z, e] at q; cases q
          exact x.lckS i u (by rw [set_get_ne (Ne.symm ne)]; exact q)
      | no => simp only [lockG, unlockG, e] at x ⊢; exact x
      | sh _ => simp only [lockG, unlockG, e] at x ⊢; exact x
      | bo _ => simp only [lockG, unlockG, e] at x ⊢; exact x
      | lk _ => simp only [lockG, unlockG, e] at x ⊢; exact x
theorem Shr.unlock {j : Option Nat} (x : Shr (lockG j g) g') : Shr g (unlockG j g g') := by
  cases j with
  | none => exact x
  | some j =>
    cases e : g[j]? with
    | none => simp only [lockG, unlockG, e] at x ⊢; exact x
    | some s0 =>
      cases s0 with
      | ow t =>
        simp only [lockG, unlockG, e] at x ⊢
        intro i u h
        rcases get_set h with ⟨a, b⟩ | ⟨a, b⟩
        · subst a; exact ⟨t, e⟩
        · obtain ⟨w, q⟩ := x i u b
          rw [set_get_ne a] at q
          exact ⟨w, q⟩
      | no => simp only [lockG, unlockG, e] at x ⊢; exact x
      | sh _ => simp only [lockG, unlockG, e] at x ⊢; exact x
      | bo _ => simp only [lockG, unlockG, e] at x ⊢; exact x
      | lk _ => simp only [lockG, unlockG, e] at x ⊢; exact x
/-! ### an object put aside -/
def rmv (H : Hp) (D : Addr) : Hp := fun b => if b = D then none else H b
theorem rmv_ne {H : Hp} {D b : Addr} (h : b ≠ D) : rmv H D b = H b := if_neg h
theorem rmv_same {H : Hp} {D : Addr} : rmv H D D = none := if_pos rfl
theorem rmv_some {H : Hp} {D b : Addr} {o : HO} (h : rmv H D b = some o) : b ≠ D ∧ H b = some o := by
  unfold rmv at h
  split at h
  · cases h
  · rename_i n; exact ⟨n, h⟩
theorem rmv_upd {H : Hp} {D : Addr} {o : HO} (h : H D = none) : rmv (upd H D o) D = H := by
  funext b
  by_cases e : b = D
  · subst e; rw [rmv_same, h]
  · rw [rmv_ne e, upd_ne e]
theorem rmv_upd' {H : Hp} {D : Addr} {o : HO} : rmv (upd H D o) D = rmv H D := by
  funext b
  by_cases e : b = D
  · subst e; rw [rmv_same, rmv_same]
  · rw [rmv_ne e, rmv_ne e, upd_ne e]
theorem rmv_sub {H : Hp} {D : Addr} : Same (rmv H D) H := fun _ _ h => (rmv_some h).2
theorem Sta.rmvF {D : Addr} (st : Sta W σ (rmv H D) F g) : F D = none := by
  cases e : F D with
  | none => rfl
  | some o => have := st.same _ _ e; rw [rmv_same] at this; cases this
theorem Sta.rmvS {D : Addr} (st : Sta W σ (rmv H D) F g) {i : Nat} {s : Slot} {t : T} (h : g[i]? = some s) (m : s.mineT = some t) : σ[i]? ≠ some (some (.ref D)) := fun z => by
  obtain ⟨a, o, h1, h2, h3, h4⟩ := (st.slot i _ h).mine m
  rw [z] at h1; cases h1
  rw [rmv_same] at h3; cases h3
theorem Sta.unrmv {D : Addr} (st : Sta W σ (rmv H D) F g) : Sta W σ H F g := by
  refine ⟨st.same.trans rmv_sub, fun i s h => ?_, st.apart, st.len⟩
  cases hm : s.mineT with
  | some t =>
    obtain ⟨a, o, h1, h2, h3, h4⟩ := (st.slot i _ h).mine hm
    exact .of_mine hm h1 h2 (rmv_sub _ _ h3) h4
  | none =>
    have q := st.slot i s h
    cases s with
    | no => trivial
    | sh t => exact q
    | _ => cases hm
theorem Ext.rmv {D : Addr} {o : HO} (st : Sta W σ (rmv H D) F g) (hD : H D = some o) (x : Ext W σ H F g σ' H' F' g') : Ext W σ (PV.rmv H D) F g σ' (PV.rmv H' D) F' g' ∧ H' D = some o := by
  have nO : ¬ Ow σ g D := fun ⟨i, t, h, z⟩ => st.rmvS h (t := t) rfl z
  have nM : ¬ Mu σ g D := fun ⟨i, s, t, h, m, z⟩ => st.rmvS h (Slot.mine_of_mut m) z
  have nF : F' D = none := by
    cases e : F' D with
    | none => rfl
    | some u =>
      rcases x.newF D u e with q | q | q
      · rw [st.rmvF] at q; cases q
      · rw [hD] at q; cases q
      · exact absurd q nO
  have kD := x.keep D o hD nM
  have nS : ∀ {i : Nat} {s : Slot} {t : T}, g'[i]? = some s → s.mineT = some t → σ'[i]? ≠ some (some (.ref D)) := fun {i s t} h m z => by
    obtain ⟨a, u, h1, h2, h3, h4⟩ := (x.st.slot i _ h).mine m
    cases s with
    | no => cases m
    | sh _ => cases m
    | ow w =>
      rcases x.ownO D ⟨i, w, h, z⟩ with q | q
      · exact nO q
      · rw [hD] at q; cases q
    | bo w =>
      obtain ⟨w0, h0⟩ := (x.bor i).mpr ⟨w, h⟩
      rw [x.borS i w0 h0] at z
      exact st.rmvS h0 (t := w0) rfl z
    | lk w =>
      have h0 := (x.lck i w).mpr h
      rw [x.lckS i w h0] at z
      exact st.rmvS h0 (t := w) rfl z
  refine ⟨⟨⟨fun a u h => ?_, fun i s h => ?_, x.st.apart, x.st.len⟩, x.mono, fun a u h n => ?_, fun a u h => ?_, fun a m => ?_, fun a u h => ?_, x.bor, x.borS, x.lck, x.lckS⟩, kD⟩
  · have ne : a ≠ D := fun z => by rw [z, nF] at h; cases h
    rw [rmv_ne ne]; exact x.st.same a u h
  · cases hm : s.mineT with
    | some t =>
      obtain ⟨a, u, h1, h2, h3, h4⟩ := (x.st.slot i _ h).mine hm
      refine .of_mine hm h1 h2 ?_ h4
      rw [rmv_ne]; exact h3
      rintro rfl
      exact nS h hm h1
    | none =>
      have q := x.st.slot i s h
      cases s with
      | no => trivial
      | sh t => exact q
      | _ => cases hm
  · obtain ⟨ne, h⟩ := rmv_some h
    rw [rmv_ne ne]; exact x.keep a u h n
  · obtain ⟨ne, h⟩ := rmv_some h
    obtain ⟨u', h'⟩ := x.dom a u h
    exact ⟨u', by rw [rmv_ne ne]; exact h'⟩
  · rcases x.ownO a m with q | q
    · exact .inl q
    · refine .inr ?_
      by_cases e : a = D
      · rw [e]; exact rmv_same
      · rw [rmv_ne e]; exact q
  · rcases x.newF a u h with q | q | q
    · exact .inl q
    · refine .inr (.inl ?_)
      by_cases e : a = D
      · rw [e]; exact rmv_same
      · rw [rmv_ne e]; exact q
    · exact .inr (.inr q)
end
end PV

/-! PV20: targets, comprehensions -/
namespace PV
open PySem PySem.Spec PyProof.Rows L2
section
variable {W : Wd} {σ σ' : Sl} {H F H' F' : Hp} {g g' : G}
/-- a slot is given a value that never changes -/
theorem Sta.put {i : Nat} {v : V} {t : T} {u : Unit} (st : Sta W σ H F g) (r : Rep W F v t) (h : put i (.sh t) g = some (u, g')) : Ext W σ H F g (σ.set i (some v)) H F g' ∧ Shr g g' := by
  have key : g' = g.set i (.sh t) ∧ ∃ s, g[i]? = some s ∧ (∀ t, s ≠ .bo t) ∧ ∀ t, s ≠ .lk t := by
    unfold PV.put at h
    split at h <;> first | (cases h; rename_i e; exact ⟨rfl, _, e, by simp, by simp⟩) | cases h
  obtain ⟨rfl, s0, e0, nb, nl⟩ := key
  have hi : i < σ.length := by rw [← st.len]; exact (List.getElem?_eq_some_iff.mp e0).1
  have out : ∀ {j : Nat} {s : Slot}, (g.set i (.sh t))[j]? = some s → (j = i ∧ s = .sh t) ∨ (j ≠ i ∧ g[j]? = some s ∧ (σ.set i (some v))[j]? = σ[j]?) := fun {j s} e => by
    rcases get_set e with ⟨a, b⟩ | ⟨a, b⟩
    · exact .inl ⟨a.symm, b⟩
    · exact .inr ⟨fun z => a z.symm, b, List.getElem?_set_ne a⟩
  have keepN : ∀ {j : Nat} {s : Slot}, g[j]? = some s → ((∃ t, s = .bo t) ∨ ∃ t, s = .lk t) → i ≠ j := fun {j s} e k z => by
    subst z
    rw [e0] at e; cases e
    rcases k with ⟨t, k⟩ | ⟨t, k⟩
    · exact nb t k
    · exact nl t k
  refine ⟨⟨⟨st.same, fun j s e => ?_, fun j k a s s' u u' e1 e2 m1 m2 z1 z2 => ?_, by rw [List.length_set, List.length_set]; exact st.len⟩, Same.refl _, fun _ _ h _ => h, fun _ o h => ⟨o, h⟩, fun a m => ?_, fun _ _ h => .inl h, fun j => ⟨?_, ?_⟩, fun j u e => ?_, fun j u => ⟨fun e => ?_, fun e => ?_⟩, fun j u e => ?_⟩, fun j u e => ?_⟩
  · rcases out e with ⟨rfl, rfl⟩ | ⟨_, e1, e2⟩
    · exact ⟨v, List.getElem?_set_self hi, r⟩
    · cases hm : s.mineT with
      | some w =>
        obtain ⟨a, o, h1, h2, h3, h4⟩ := (st.slot j _ e1).mine hm
        exact .of_mine hm (by rw [e2]; exact h1) h2 h3 h4
      | none =>
        have q := st.slot j s e1
        cases s with
        | no => trivial
        | sh w => obtain ⟨x, h1, h2⟩ := q; exact ⟨x, by rw [e2]; exact h1, h2⟩
        | _ => cases hm
  · rcases out e1 with ⟨_, rfl⟩ | ⟨_, a1, a2⟩
    · cases m1
    · rcases out e2 with ⟨_, rfl⟩ | ⟨_, b1, b2⟩
      · cases m2
      · rw [a2] at z1; rw [b2] at z2
        exact st.apart j k a s s' u u' a1 b1 m1 m2 z1 z2
  · obtain ⟨j, u, e, z⟩ := m
    rcases out e with ⟨_, q⟩ | ⟨_, e1, e2⟩
    · cases q
    · exact .inl ⟨j, u, e1, by rw [← e2]; exact z⟩
  · rintro ⟨u, e⟩
    exact ⟨u, by rw [set_get_ne (keepN e (.inl ⟨u, rfl⟩))]; exact e⟩
  · rintro ⟨u, e⟩
    rcases out e with ⟨_, q⟩ | ⟨_, e1, _⟩
    · cases q
    · exact ⟨u, e1⟩
  · exact List.getElem?_set_ne (keepN e (.inl ⟨u, rfl⟩))
  · rw [set_get_ne (keepN e (.inr ⟨u, rfl⟩))]; exact e
  · rcases out e with ⟨_, q⟩ | ⟨_, e1, _⟩
    · cases q
    · exact e1
  · exact List.getElem?_set_ne (keepN e (.inr ⟨u, rfl⟩))
  · rcases out e with ⟨_, q⟩ | ⟨_, e1, _⟩
    · cases q
    · exact ⟨u, e1⟩
end
mutual
def Tg.slots : Tg → List Nat
  | .at i => [i]
  | .row ts => Tg.slotsL ts
def Tg.slotsL : List Tg → List Nat
  | [] => []
  | t :: ts => t.slots ++ Tg.slotsL ts
end
/-- a target's store -/
def tG (W : Wd) (tg : Tg) : TG := fun v σ H Q => ∃ F g t g', Sta W σ H F g ∧ Rep W F v t ∧ tgt tg t g = some ((), g') ∧ ∀ σ', Ext W σ H F g σ' H F g' → Shr g g' → σ'.length = σ.length → (∀ i, i ∉ tg.slots → σ'[i]? = σ[i]?) → Q σ' H
def tGs (W : Wd) (tgs : List Tg) : TGs := fun vs σ H Q => ∃ F g ts g', Sta W σ H F g ∧ Reps W F vs ts ∧ PV.tgts tgs ts g = some ((), g') ∧ ∀ σ', Ext W σ H F g σ' H F g' → Shr g g' → σ'.length = σ.length → (∀ i, i ∉ Tg.slotsL tgs → σ'[i]? = σ[i]?) → Q σ' H
theorem _root_.L2.PG.mono' {X : Cx} {e : Expr} {t t' : TG} (h : PG X e t) (m : ∀ v σ H Q, t' v σ H Q → t v σ H Q) : PG X e t' := ⟨fun pins s σ H v u Q I r q => h.run pins s σ H v u Q I r (m v σ H Q q)⟩
theorem _root_.L2.PGs.mono' {X : Cx} {e : List Expr} {t t' : TGs} (h : PGs X e t) (m : ∀ v σ H Q, t' v σ H Q → t v σ H Q) : PGs X e t' := ⟨fun pins s σ H v u Q I r q => h.run pins s σ H v u Q I r (m v σ H Q q)⟩
section
variable {W : Wd} {X : Cx} {pos : Pos}
theorem tg_at {e : Expr} {i : Nat} (h : PG X e (gName i)) : PG X e (tG W (.at i)) := by
  refine h.mono' ?_
  rintro v σ H Q ⟨F, g, t, g', st, r, ev, q⟩
  obtain ⟨x, sh⟩ := st.put (v := v) r (by simpa only [tgt] using ev)
  exact q _ x sh (List.length_set ..) fun j hj => List.getElem?_set_ne fun z => hj (by simp [Tg.slots, z])
theorem tgs_nil : PGs X [] (tGs W []) := by
  refine pgs_nil.mono' ?_
  rintro v σ H Q ⟨F, g, ts, g', st, r, ev, q⟩
  cases ts with
  | nil =>
    cases r
    simp only [tgts] at ev
    cases pure_some ev
    exact ⟨rfl, q _ st.refl (.refl _) rfl fun _ _ => rfl⟩
  | cons _ _ => simp only [tgts] at ev; cases ev
theorem tgs_cons {e : Expr} {es : List Expr} {a : Tg} {as : List Tg} (h1 : PG X e (tG W a)) (h2 : PGs X es (tGs W as)) (hs : (assignEach (e :: es) X.env).map (·.2) = assign e X.env :: (assignEach es X.env).map (·.2)) : PGs X (e :: es) (tGs W (a :: as)) := by
  refine (pgs_cons h1 h2 hs).mono' ?_
  rintro v σ H Q ⟨F, g, ts, g', st, r, ev, q⟩
  cases ts with
  | nil => simp only [tgts] at ev; cases ev
  | cons t ts =>
    cases r with
    | cons r rr =>
      simp only [tgts] at ev
      obtain ⟨_, g1, e1, f1⟩ := bind_some ev
      refine ⟨_, _, rfl, F, g, t, g1, st, r, e1, fun σ1 x1 s1 l1 k1 => ⟨F, g1, ts, g', x1.st, rr, f1, fun σ2 x2 s2 l2 k2 => ?_⟩⟩
      refine q σ2 (x1.trans x2) (s1.trans s2) (l2.trans l1) fun i hi => ?_
      simp only [Tg.slotsL, List.mem_append, not_or] at hi
      rw [k2 i hi.2, k1 i hi.1]
theorem tgts_len : ∀ {as : List Tg} {ts : List T} {g g' : G} {u : Unit}, tgts as ts g = some (u, g') → ts.length = as.length
  | [], [], _, _, _, _ => rfl
  | [], _ :: _, _, _, _, h => by simp only [tgts] at h; cases h
  | _ :: _, [], _, _, _, h => by simp only [tgts] at h; cases h
  | _ :: as, _ :: ts, _, _, _, h => by
    simp only [tgts] at h
    obtain ⟨_, g1, e1, f1⟩ := bind_some h
    simp [tgts_len f1]
theorem tg_row {es : List Expr} {k : Nat} {as : List Tg} (hK : X.K = W.K) (hc : X.calm = true) (h : PGs X es (tGs W as)) (hn : (assignEach es X.env).length = as.length) (hst : (assignEach es X.env).findIdx? (·.1) = none) : PG X (.Tuple es k pos) (tG W (.row as)) := by
  refine (pg_tup hc h hn hst).mono' ?_
  rintro v σ H Q ⟨F, g, t, g', st, r, ev, q⟩
  cases t with
  | tup xs =>
    simp only [tgt] at ev
    obtain ⟨a, vs, rfl, h1, h2⟩ := r.tup_inv
    refine ⟨a, vs, rfl, .of (st.same _ _ h1), by rw [h2.length]; exact tgts_len ev, F, g, xs, g', st, h2, ev, fun σ' x s l k => q σ' x s l fun i hi => k i (by simpa only [Tg.slots] using hi)⟩
  | _ => simp only [tgt] at ev; cases ev
end
theorem wipe_congr {σ σ2 : Sl} {vs : List Nat} (hl : σ2.length = σ.length) (h : ∀ i, i ∉ vs → σ2[i]? = σ[i]?) : L2.wipe σ2 vs = L2.wipe σ vs := by
  refine List.ext_getElem? fun i => ?_
  by_cases hi : i ∈ vs
  · by_cases hl' : i < σ.length
    · rw [wipe_in hi hl', wipe_in hi (by omega)]
    · rw [List.getElem?_eq_none (by rw [wipe_length]; omega), List.getElem?_eq_none (by rw [wipe_length]; omega)]
  · rw [wipe_out hi, wipe_out hi, h i hi]
theorem wipe_twice {σ : Sl} {vs : List Nat} : L2.wipe (L2.wipe σ vs) vs = L2.wipe σ vs :=
  wipe_congr (wipe_length σ vs) fun i hi => wipe_out hi
theorem put_some {i : Nat} {s : Slot} {g g' : G} {u : Unit} (h : put i s g = some (u, g')) : g' = g.set i s ∧ ∃ s0, g[i]? = some s0 ∧ (∀ t, s0 ≠ .bo t) ∧ ∀ t, s0 ≠ .lk t := by
  unfold put at h
  split at h <;> first | (cases h; rename_i e; exact ⟨rfl, _, e, by simp, by simp⟩) | cases h
theorem clearOwn_some : ∀ {vs : List Nat} {g g' : G} {u : Unit}, clearOwn vs g = some (u, g') → g' = wipeOwn g vs ∧ ∀ i ∈ vs, ∀ s, g[i]? = some s → (∀ t, s ≠ .bo t) ∧ ∀ t, s ≠ .lk t
  | [], g, g', u, h => by
    simp only [clearOwn] at h
    cases pure_some h
    exact ⟨rfl, by simp⟩
  | v :: vs, g, g', u, h => by
    simp only [clearOwn] at h
    obtain ⟨_, g1, e1, f1⟩ := bind_some h
    obtain ⟨rfl, k⟩ := clearOwn_some e1
    obtain ⟨rfl, s0, e0, nb, nl⟩ := put_some f1
    refine ⟨rfl, fun i hi s e => ?_⟩
    rcases List.mem_cons.mp hi with rfl | hi
    · by_cases hv : i ∈ vs
      · exact k i hv s e
      · rw [wipeOwn_out hv, e] at e0; cases e0
        exact ⟨nb, nl⟩
    · exact k i hi s e
theorem Ext.toE {W : Wd} {σ : Sl} {H F H' F' : Hp} {g g' : G} (x : Ext W σ H F g σ H' F' g') (s : Shr g g') : ExE W σ H F g H' F' g' := ⟨x, s⟩
end PV

/-! PV21: list comprehensions -/
namespace PV
open PySem PySem.Spec PyProof.Rows L2
theorem Keeps.unrmv {W : Wd} {σ σ' : Sl} {H F H' F' : Hp} {g g' : G} {D : Addr} (st : Sta W σ H F g) (st' : Sta W σ' (rmv H' D) F' g') (k : Keeps σ H F g σ' (rmv H' D) F' g') : Keeps σ H F g σ' H' F' g' := by
  refine ⟨k.ff, st'.unrmv.same, fun i t h => ?_⟩
  obtain ⟨a1, a2, a3⟩ := k.lk i t h
  refine ⟨a1, a2, fun a z => ?_⟩
  obtain ⟨b, o, h1, h2, h3, h4⟩ := (st.slot i _ h).mine (t := t) rfl
  rw [z] at h1; cases h1
  have e := a3 a z
  rw [h3] at e
  rw [(rmv_some e).2, h3]
section
variable {W : Wd} {gl : String → Option T} {cl : Cl} {X : Cx} {pos : Pos}
/-- one turn's step of a comprehension -/
def stepC (gl : String → Option T) (cl : Cl) (own : List Nat) (tg : Tg) (ic : List CE) (ec : CE) : T → M (List T) := fun x => fun g =>
  (do
    tgt tg x
    let k ← evIfs gl cl ic
    if k then do
      let y ← kept ec (evX gl cl ec)
      clearOwn own
      M.pure [y]
    else do
      clearOwn own
      M.pure [] : M (List T)) g
theorem stepC_some {own : List Nat} {tg : Tg} {ic : List CE} {ec : CE} {t : T} {g g' : G} {r : List T} (h : stepC gl cl own tg ic ec t g = some (r, g')) :
    ∃ g1 k g2, tgt tg t g = some ((), g1) ∧ evIfs gl cl ic g1 = some (k, g2) ∧ if k = true then ∃ y g3, kept ec (evX gl cl ec) g2 = some (y, g3) ∧ clearOwn own g3 = some ((), g') ∧ r = [y] else clearOwn own g2 = some ((), g') ∧ r = [] := by
  unfold stepC at h
  obtain ⟨_, g1, e1, f1⟩ := bind_some h
  obtain ⟨k, g2, e2, f2⟩ := bind_some f1
  refine ⟨g1, k, g2, e1, e2, ?_⟩
  cases k with
  | true =>
    simp only [if_true] at f2 ⊢
    obtain ⟨y, g3, e3, f3⟩ := bind_some f2
    obtain ⟨_, g4, e4, f4⟩ := bind_some f3
    cases pure_some f4
    exact ⟨y, g3, e3, e4, rfl⟩
  | false =>
    simp only [Bool.false_eq_true, if_false] at f2 ⊢
    obtain ⟨_, g4, e4, f4⟩ := bind_some f2
    cases pure_some f4
    exact ⟨e4, rfl⟩
theorem forC_cons {f : T → M (List T)} {x : T} {xs : List T} {g g' : G} {r : List T} (h : forC f (x :: xs) g = some (r, g')) : ∃ r1 g1 r2, f x g = some (r1, g1) ∧ forC f xs g1 = some (r2, g') ∧ r = r1 ++ r2 := by
  simp only [forC] at h
  obtain ⟨r1, g1, e1, f1⟩ := bind_some h
  obtain ⟨r2, g2, e2, f2⟩ := bind_some f1
  cases pure_some f2
  exact ⟨r1, g1, r2, e1, e2, rfl⟩
theorem drop_at {xs : List T} {i : Nat} {t : T} (h : xs[i]? = some t) : xs.drop i = t :: xs.drop (i + 1) := by
  obtain ⟨hi, rfl⟩ := List.getElem?_eq_some_iff.mp h
  exact List.drop_eq_getElem_cons hi
theorem lc_ok {own : List Nat} {tg : Tg} {it : CI} {ic : List CE} {ec : CE} (hsub : ∀ j ∈ tg.slots, j ∈ own) (σ : Sl) (H : Hp) (Q : VK) (h : tX W gl cl (.comp own tg it ic ec) σ H Q) :
    tLc (tI W gl cl it) (tG W tg) (GoT W (evIfs gl cl ic)) (tK W gl cl ec) own σ H Q := by
  obtain ⟨F, g, a, g', st, ev, q⟩ := h
  simp only [evX] at ev
  obtain ⟨src, g1, e1, f1⟩ := bind_some ev
  obtain ⟨r, g2, e2, f2⟩ := bind_some f1
  obtain ⟨_, g3, e3, f3⟩ := bind_some f2
  obtain ⟨hlim, rfl⟩ := ask_some e3
  cases pure_some f3
  have hlim : r.length ≤ lim := of_decide_eq_true hlim
  obtain ⟨nb, g4, e4, rfl⟩ := during_some e2
  obtain ⟨of, g5, e5, rfl⟩ := within_some e4
  have e5 : forC (stepC gl cl own tg ic ec) src.2 (wipeOwn (lockG src.1 g1) own) = some (r, g5) := e5
  refine ⟨F, g, src, g1, st, e1, fun J H1 F1 x1 wl D hD => ?_⟩
  rcases wl with wl | ⟨S, wk, hS⟩
  · exact absurd wl nb
  have stL : Sta W σ H1 F1 (lockG src.1 g1) := x1.st.lock _
  obtain ⟨xw, shw⟩ := stL.wipe own (fun i hi s e => by
    obtain ⟨s', e', k⟩ := ownFree_at of hi
    rw [e] at e'; cases e'
    rcases k with rfl | ⟨t, rfl⟩ <;> exact ⟨by simp, by simp⟩)
  refine ⟨fun i m H' => m = src.2.length - i ∧ i ≤ src.2.length ∧ ∃ F' g' acc rs rest, Ext W (L2.wipe σ own) H1 F1 (wipeOwn (lockG src.1 g1) own) (L2.wipe σ own) (rmv H' D) F' g' ∧ Shr (wipeOwn (lockG src.1 g1) own) g' ∧ H' D = some (.lst acc) ∧ Reps W F' acc rs ∧ forC (stepC gl cl own tg ic ec) (src.2.drop i) g' = some (rest, g5) ∧ rs ++ rest = r, ⟨_, rfl, Nat.zero_le _, F1, _, [], [], r, ?_, .refl _, upd_same, .nil, by rw [List.drop_zero]; exact e5, rfl⟩, ?_⟩
  · rw [rmv_upd hD]; exact xw.st.refl
  rintro i m H' ⟨rfl, hi, F', g', acc, rs, rest, x', sh', hD', hr', ef, er⟩
  have st' : Sta W (L2.wipe σ own) H' F' g' := x'.st.unrmv
  have hS' : S (L2.wipe σ own) H' F' g' := wk.stable hS (Keeps.unrmv stL x'.st ((xw.trans x').keeps stL))
  by_cases hlt : i < src.2.length
  · refine .inr ⟨wk.go hS' hlt, fun H2 => ∃ F2 g2 acc2 rs2 rest2, Ext W (L2.wipe σ own) H1 F1 (wipeOwn (lockG src.1 g1) own) (L2.wipe σ own) (rmv H2 D) F2 g2 ∧ Shr (wipeOwn (lockG src.1 g1) own) g2 ∧ H2 D = some (.lst acc2) ∧ Reps W F2 acc2 rs2 ∧ forC (stepC gl cl own tg ic ec) (src.2.drop (i + 1)) g2 = some (rest2, g5) ∧ rs2 ++ rest2 = r, fun H2 z => ⟨_, by omega, rfl, hlt, z⟩, fun x H2 y => ?_⟩
    obtain ⟨t, ht, F2, out⟩ := wk.yld hS' st'.same hlt y
    rw [drop_at ht] at ef
    obtain ⟨r1, ga, r2, ea, eb, rfl⟩ := forC_cons ef
    obtain ⟨gb, k, gc, c1, c2, c3⟩ := stepC_some ea
    have xa := out.ext st'
    refine ⟨F2, g', t, gb, xa.st, out.val, c1, fun σ2 xb sb lb kb => ?_⟩
    have weq : L2.wipe σ2 own = L2.wipe σ own := by
      rw [← wipe_twice (σ := σ)]
      exact wipe_congr lb fun j hj => kb j fun z => hj (hsub j z)
    refine ⟨weq, F2, gb, k, gc, xb.st, c2, fun H3 F3 xc => ?_⟩
    cases k with
    | true =>
      simp only [if_true] at c3 ⊢
      obtain ⟨y', gd, d1, d2, rfl⟩ := c3
      refine ⟨F3, gc, y', gd, xc.st, d1, fun v H4 F4 xd rv => ?_⟩
      obtain ⟨xr, hD4⟩ := Ext.rmv x'.st hD' (((xa.trans xb).trans xc.x).trans xd.x)
      obtain ⟨rfl, cond⟩ := clearOwn_some d2
      obtain ⟨xz, sz⟩ := xr.st.wipe own cond
      rw [weq] at xz
      refine ⟨acc, hD4, ?_, F4, _, acc ++ [v], rs ++ [y'], r2, ?_, ?_, upd_same, (hr'.mono (xr.mono)).append (.cons rv .nil), eb, ?_⟩
      · have := hr'.length
        have l2 : r.length = rs.length + (([y'] ++ r2 : List T)).length := by rw [← er, List.length_append]
        simp at l2
        have := lim_le
        omega
      · rw [rmv_upd']
        exact (x'.trans xr).trans xz
      · exact ((((sh'.trans (.refl _)).trans sb).trans xc.shr).trans xd.shr).trans sz
      · rw [← er]; simp
    | false =>
      simp only [Bool.false_eq_true, if_false] at c3 ⊢
      obtain ⟨d2, rfl⟩ := c3
      obtain ⟨xr, hD4⟩ := Ext.rmv x'.st hD' ((xa.trans xb).trans xc.x)
      obtain ⟨rfl, cond⟩ := clearOwn_some d2
      obtain ⟨xz, sz⟩ := xr.st.wipe own cond
      rw [weq] at xz
      refine ⟨F3, _, acc, rs, r2, (x'.trans xr).trans xz, (((sh'.trans (.refl _)).trans sb).trans xc.shr).trans sz, hD4, hr'.mono xr.mono, eb, ?_⟩
      rw [← er]; simp
  · have e : i = src.2.length := by omega
    subst e
    refine .inl ⟨wk.stop hS' (Nat.le_refl _), ?_⟩
    rw [List.drop_length] at ef
    simp only [forC] at ef
    cases pure_some ef
    rw [List.append_nil] at er
    subst er
    have y1 := Ext.unwipe stL of x' sh'
    have y2 : ExE W σ H1 F1 g1 (rmv H' D) F' (unlockG src.1 g1 (restore (lockG src.1 g1) g5 own)) := ⟨Ext.unlock x1.st y1.x, Shr.unlock y1.shr⟩
    have y3 : ExE W σ (rmv H' D) F' (unlockG src.1 g1 (restore (lockG src.1 g1) g5 own)) H' F' (unlockG src.1 g1 (restore (lockG src.1 g1) g5 own)) := ⟨y2.st.grow rmv_sub (Same.refl _) st'.same (fun _ _ h => .inl h), Shr.refl _⟩
    refine q _ H' F' ((x1.trans y2).trans y3) ?_
    unfold Val
    rw [if_pos rfl]
    refine ⟨D, _, rfl, ?_, hD', x'.st.rmvF, .lst hr'⟩
    cases e : H D with
    | none => rfl
    | some o =>
      obtain ⟨o', e'⟩ := x1.x.dom D o e
      rw [hD] at e'; cases e'
abbrev tIfs (W : Wd) (gl : String → Option T) (cl : Cl) (ic : List CE) : TT := GoT W (evIfs gl cl ic)
theorem pts_nil' : PTs X [] (tIfs W gl cl []) := ⟨fun pins s σ H Q I h => by
  obtain ⟨F, g, b, g', st, ev, q⟩ := h
  simp only [evIfs] at ev
  cases pure_some ev
  exact (pts_nil (X := X)).run pins s σ H Q I (q H F (.refl st))⟩
theorem pts_one' {e : Expr} {c : CE} (h : St W gl cl X e c) : PTs X [e] (tIfs W gl cl [c]) := ⟨fun pins s σ H Q I hw => by
  refine (pts_one h).run pins s σ H Q I ?_
  obtain ⟨F, g, b, g', st, ev, q⟩ := hw
  simp only [evIfs] at ev
  exact ⟨F, g, b, g', st, ev, q⟩⟩
/-- a comprehension of the text and its core form: its parts, in its own context -/
structure Lc (W : Wd) (gl : String → Option T) (cl : Cl) (X : Cx) (elt tg iter : Expr) (ifs : List Expr) (scope : Scope) (own : List Nat) (tgc : Tg) (it : CI) (ic : List CE) (ec : CE) : Prop where
  sub : ∀ j ∈ tgc.slots, j ∈ own
  wi : PI X tg iter (tI W gl cl it)
  blk : ∃ ow : List (Str × Nat), ow.map (·.2) = own ∧ BlkOk X.N X.env.scope scope ow
  pg : ∀ (s : Shared) (H : Hp) (C : Addr) (cs : List (Str × Addr)) (fp : List Addr), PG (X.blk s H scope (compEnvC scope cs C X.env) fp) tg (tG W tgc)
  pt : ∀ (s : Shared) (H : Hp) (C : Addr) (cs : List (Str × Addr)) (fp : List Addr), PTs (X.blk s H scope (compEnvC scope cs C X.env) fp) ifs (tIfs W gl cl ic)
  pe : ∀ (s : Shared) (H : Hp) (C : Addr) (cs : List (Str × Addr)) (fp : List Addr), PE (X.blk s H scope (compEnvC scope cs C X.env) fp) elt (tK W gl cl ec)
  ns : ∀ x, foldedSetIterable iter X.env x = pure x
theorem sd_comp {elt tg iter : Expr} {ifs : List Expr} {scope : Scope} {own : List Nat} {tgc : Tg} {it : CI} {ic : List CE} {ec : CE} (hc : X.calm = true) (hN : X.N.Nodup) (h : Lc W gl cl X elt tg iter ifs scope own tgc it ic ec) :
    Sd W gl cl X (.ListComp elt [⟨tg, iter, ifs, 0⟩] scope pos) (.comp own tgc it ic ec) := by
  obtain ⟨ow, rfl, hb⟩ := h.blk
  exact .of rfl ((pe_lc hc hN h.wi hb h.pg h.pt h.pe h.ns).mono' (lc_ok h.sub))
/-- a value moved out of its name, or a new one -/
def Mine (W : Wd) (σ : Sl) (H : Hp) (g : G) (H' F' : Hp) (g' : G) (v : V) (t : T) : Prop := ∃ a o, v = .ref a ∧ (H a = none ∨ Ow σ g a) ∧ H' a = some o ∧ F' a = none ∧ RepO W F' o t ∧ ∀ (i : Nat) (s : Slot) (u : T), g'[i]? = some s → s.mineT = some u → σ[i]? ≠ some (some (.ref a))
def MVal (W : Wd) (σ : Sl) (H : Hp) (g : G) (H' F' : Hp) (g' : G) (r : Bool × T) (v : V) : Prop := if r.1 then Mine W σ H g H' F' g' v r.2 else Rep W F' v r.2
def tM (W : Wd) (gl : String → Option T) (cl : Cl) (e : CE) : TE := fun σ H Q => ∃ F g r g', Sta W σ H F g ∧ moved e (evX gl cl e) g = some (r, g') ∧ ∀ v H' F', ExE W σ H F g H' F' g' → MVal W σ H g H' F' g' r v → Q v H'
theorem Val.m {e : CE} {σ : Sl} {H F H' F' : Hp} {g g' : G} {r : Bool × T} {v : V} (hv : e.isVar = false) (st : Sta W σ H F g) (x : ExE W σ H F g H' F' g') (h : Val W e H H' F' r v) : MVal W σ H g H' F' g' r v := by
  unfold Val at h
  unfold MVal
  split
  · rename_i k
    rw [if_pos k] at h
    obtain ⟨a, o, rfl, h1, h2, h3, h4⟩ := h
    exact ⟨a, o, rfl, .inl h1, h2, h3, h4, x.apart st h1⟩
  · rename_i k
    rw [if_neg k, if_neg (by rw [hv]; simp)] at h
    exact h
theorem moved_not {e : CE} (hv : e.isVar = false) {m : M (Bool × T)} : moved e m = m := by
  cases e <;> first | rfl | cases hv
theorem tX_m {e : CE} (hv : e.isVar = false) (σ : Sl) (H : Hp) (Q : VK) (h : tM W gl cl e σ H Q) : tX W gl cl e σ H Q := by
  obtain ⟨F, g, r, g', st, ev, q⟩ := h
  rw [moved_not hv] at ev
  exact ⟨F, g, r, g', st, ev, fun v H' F' x val => q v H' F' x (val.m hv st x)⟩
theorem Sta.drop {σ : Sl} {H F : Hp} {g : G} {j : Nat} {t : T} (st : Sta W σ H F g) (e : g[j]? = some (.ow t)) : ExE W σ H F g H F (g.set j .no) := by
  have out : ∀ {i : Nat} {s : Slot} {u : T}, (g.set j Slot.no)[i]? = some s → s.mineT = some u → i ≠ j ∧ g[i]? = some s := fun {i s u} h m => by
    rcases get_set h with ⟨_, rfl⟩ | ⟨a, b⟩
    · cases m
    · exact ⟨fun z => a z.symm, b⟩
  have inn : ∀ {i : Nat} {s : Slot}, g[i]? = some s → (∀ u, s ≠ .ow u) → (g.set j Slot.no)[i]? = some s := fun {i s} h n => by
    rw [set_get_ne]; exact h
    rintro rfl
    rw [e] at h; cases h
    exact n t rfl
  refine ⟨⟨⟨st.same, fun i s h => ?_, fun i k a s s' u u' e1 e2 m1 m2 z1 z2 => st.apart i k a s s' u u' (out e1 m1).2 (out e2 m2).2 m1 m2 z1 z2, by rw [List.length_set]; exact st.len⟩, Same.refl _, fun _ _ h _ => h, fun _ o h => ⟨o, h⟩, fun a m => ?_, fun _ _ h => .inl h, fun i => ⟨?_, ?_⟩, fun _ _ _ => rfl, fun i u => ⟨fun h => inn h (by simp), fun h => (out h (u := u) rfl).2⟩, fun _ _ _ => rfl⟩, fun i u h => ⟨u, (out h (u := u) rfl).2⟩⟩
  · rcases get_set h with ⟨_, rfl⟩ | ⟨a, b⟩
    · trivial
    · exact st.slot i s b
  · obtain ⟨i, u, h, z⟩ := m
    exact .inl ⟨i, u, (out h (u := u) rfl).2, z⟩
  · rintro ⟨u, h⟩; exact ⟨u, inn h (by simp)⟩
  · rintro ⟨u, h⟩; exact ⟨u, (out h (u := u) rfl).2⟩
theorem Sd.moved {ex : Expr} {e : CE} (h : Sd W gl cl X ex e) : PE X ex (tM W gl cl e) := by
  by_cases hv : e.isVar = true
  · obtain ⟨j, rfl⟩ : ∃ i, e = .var i := by cases e <;> first | exact ⟨_, rfl⟩ | cases hv
    refine (h.var j rfl).mono' ?_
    rintro σ H Q ⟨F, g, r, g', st, ev, q⟩
    simp only [PV.moved] at ev
    split at ev
    · rename_i t e1
      cases ev
      obtain ⟨v, h1, h2⟩ := st.slot j _ e1
      exact ⟨v, h1, q v H F (.refl st) h2⟩
    · rename_i t e1
      cases ev
      obtain ⟨a, o, h1, h2, h3, h4⟩ := (st.slot j _ e1).mine (t := t) rfl
      refine ⟨_, h1, q _ H F (st.drop e1) ⟨a, o, rfl, .inr ⟨j, t, e1, h1⟩, h3, h2, h4, fun i s u hi m z => ?_⟩⟩
      rcases get_set hi with ⟨_, rfl⟩ | ⟨ne, hi⟩
      · cases m
      · exact ne (st.apart j i a _ s t u e1 hi rfl m h1 z)
    · cases ev
  · exact h.pe.mono' (tX_m (by simpa using hv))
/-- name = value -/
def tSet (W : Wd) (gl : String → Option T) (cl : Cl) (e : CE) (i : Nat) : TS := tAsg (tM W gl cl e) (gName i)
theorem set_lc {i : Nat} {y : Str} {py spos : Pos} {elt tg iter : Expr} {ifs : List Expr} {scope : Scope} {own : List Nat} {tgc : Tg} {it : CI} {ic : List CE} {ec : CE} (hc : X.calm = true) (hN : X.N.Nodup) (hy : X.N[i]? = some y) (hyl : X.env.scope.names.lookup y = some .local)
    (hsw : swapsWith (.ListComp elt [⟨tg, iter, ifs, 0⟩] scope pos) (some (.Name y py)) spos.line X.env = pure true) (h : Lc W gl cl X elt tg iter ifs scope own tgc it ic ec) :
    PS X (.Assign [.Name y py] (.ListComp elt [⟨tg, iter, ifs, 0⟩] scope pos) spos) (tSet W gl cl (.comp own tgc it ic ec) i) := by
  obtain ⟨ow, rfl, hb⟩ := h.blk
  refine (ps_setLc hc hN hy hyl hsw h.wi hb h.pg h.pt h.pe h.ns).mono' fun D σ H q => ?_
  exact lc_ok h.sub σ H _ (tX_m rfl σ H _ q)
end
end PV

/-! PV22: statements -/
namespace PV
open PySem PySem.Spec PyProof.Rows L2
section
variable {W : Wd} {gl : String → Option T} {cl : Cl} {X : Cx} {pos : Pos}
/-- an own value, or one that never changes -/
def OwnV (W : Wd) (P : Addr → Prop) (σ : Sl) (H F : Hp) (g : G) (r : Bool × T) (v : V) : Prop :=
  if r.1 then ∃ a o, v = .ref a ∧ P a ∧ H a = some o ∧ F a = none ∧ RepO W F o r.2 ∧ ∀ (i : Nat) (s : Slot) (u : T), g[i]? = some s → s.mineT = some u → σ[i]? ≠ some (some (.ref a)) else Rep W F v r.2
theorem Ext.put {σ0 σ : Sl} {H0 F0 H F : Hp} {g0 g g' : G} {i : Nat} {r : Bool × T} {v : V} {u : Unit} (x : Ext W σ0 H0 F0 g0 σ H F g) (mv : OwnV W (fun a => H0 a = none ∨ Ow σ0 g0 a) σ H F g r v) (h : put i (slotOf r) g = some (u, g')) :
    Ext W σ0 H0 F0 g0 (σ.set i (some v)) H F g' := by
  obtain ⟨rfl, s0, e0, nb, nl⟩ := put_some h
  have st := x.st
  have hi : i < σ.length := by rw [← st.len]; exact (List.getElem?_eq_some_iff.mp e0).1
  have out : ∀ {j : Nat} {s : Slot}, (g.set i (slotOf r))[j]? = some s → (j = i ∧ s = slotOf r ∧ (σ.set i (some v))[j]? = some (some v)) ∨ (j ≠ i ∧ g[j]? = some s ∧ (σ.set i (some v))[j]? = σ[j]?) := fun {j s} e => by
    rcases get_set e with ⟨a, b⟩ | ⟨a, b⟩
    · subst a; exact .inl ⟨rfl, b, List.getElem?_set_self hi⟩
    · exact .inr ⟨fun z => a z.symm, b, List.getElem?_set_ne a⟩
  have keepN : ∀ {j : Nat} {s : Slot}, g[j]? = some s → ((∃ t, s = .bo t) ∨ ∃ t, s = .lk t) → i ≠ j := fun {j s} e k z => by
    subst z
    rw [e0] at e; cases e
    rcases k with ⟨t, k⟩ | ⟨t, k⟩
    · exact nb t k
    · exact nl t k
  -- the slot's new content
  have cas : (∃ t, slotOf r = .sh t ∧ Rep W F v t) ∨ ∃ t a o, slotOf r = .ow t ∧ v = .ref a ∧ (H0 a = none ∨ Ow σ0 g0 a) ∧ H a = some o ∧ F a = none ∧ RepO W F o t ∧ ∀ (i : Nat) (s : Slot) (u : T), g[i]? = some s → s.mineT = some u → σ[i]? ≠ some (some (.ref a)) := by
    unfold OwnV at mv
    unfold slotOf
    split at mv
    · rename_i k
      obtain ⟨a, o, h1, h2, h3, h4, h5, h6⟩ := mv
      rw [if_pos k]
      exact .inr ⟨_, a, o, rfl, h1, h2, h3, h4, h5, h6⟩
    · rename_i k
      rw [if_neg k]
      exact .inl ⟨_, rfl, mv⟩
  have nbo : ∀ t, slotOf r ≠ .bo t := fun t z => by rcases cas with ⟨_, e, _⟩ | ⟨_, _, _, e, _⟩ <;> rw [e] at z <;> cases z
  have nlk : ∀ t, slotOf r ≠ .lk t := fun t z => by rcases cas with ⟨_, e, _⟩ | ⟨_, _, _, e, _⟩ <;> rw [e] at z <;> cases z
  refine ⟨⟨st.same, fun j s e => ?_, fun j k a s s' u u' e1 e2 m1 m2 z1 z2 => ?_, by rw [List.length_set, List.length_set]; exact st.len⟩, x.mono, x.keep, x.dom, fun a m => ?_, x.newF, fun j => ⟨fun ⟨u, e⟩ => ?_, fun ⟨u, e⟩ => ?_⟩, fun j u e => ?_, fun j u => ⟨fun e => ?_, fun e => ?_⟩, fun j u e => ?_⟩
  · rcases out e with ⟨rfl, rfl, e3⟩ | ⟨_, e1, e2⟩
    · rcases cas with ⟨t, e4, rp⟩ | ⟨t, a, o, e4, rfl, _, h3, h4, h5, _⟩
      · rw [e4]; exact ⟨v, e3, rp⟩
      · rw [e4]; exact .of_mine (t := t) rfl e3 h4 h3 h5
    · cases hm : s.mineT with
      | some w =>
        obtain ⟨a, o, h1, h2, h3, h4⟩ := (st.slot j _ e1).mine hm
        exact .of_mine hm (by rw [e2]; exact h1) h2 h3 h4
      | none =>
        have q := st.slot j s e1
        cases s with
        | no => trivial
        | sh w => obtain ⟨y, h1, h2⟩ := q; exact ⟨y, by rw [e2]; exact h1, h2⟩
        | _ => cases hm
  · have own : ∀ {s : Slot} {u : T}, s = slotOf r → s.mineT = some u → ∃ b, v = .ref b ∧ ∀ (i : Nat) (s : Slot) (u : T), g[i]? = some s → s.mineT = some u → σ[i]? ≠ some (some (.ref b)) := fun {s u} e m => by
      rcases cas with ⟨t, e4, rp⟩ | ⟨t, b, o, e4, e5, _, h3, h4, h5, h6⟩
      · rw [e, e4] at m; cases m
      · exact ⟨b, e5, h6⟩
    rcases out e1 with ⟨rfl, k1, k2⟩ | ⟨n1, a1, a2⟩
    · rcases out e2 with ⟨rfl, _, _⟩ | ⟨n2, b1, b2⟩
      · rfl
      · obtain ⟨b, rfl, ap⟩ := own k1 m1
        rw [k2] at z1; cases z1
        rw [b2] at z2
        exact absurd z2 (ap k s' u' b1 m2)
    · rcases out e2 with ⟨rfl, l1, l2⟩ | ⟨n2, b1, b2⟩
      · obtain ⟨b, rfl, ap⟩ := own l1 m2
        rw [l2] at z2; cases z2
        rw [a2] at z1
        exact absurd z1 (ap j s u a1 m1)
      · rw [a2] at z1; rw [b2] at z2
        exact st.apart j k a s s' u u' a1 b1 m1 m2 z1 z2
  · obtain ⟨j, u, e, z⟩ := m
    rcases out e with ⟨rfl, k1, k2⟩ | ⟨_, e1, e2⟩
    · rcases cas with ⟨t, e4, rp⟩ | ⟨t, b, o, e4, rfl, hP, _⟩
      · rw [e4] at k1; cases k1
      · rw [k2] at z; cases z
        rcases hP with hP | hP
        · exact .inr hP
        · exact .inl hP
    · exact x.ownO a ⟨j, u, e1, by rw [← e2]; exact z⟩
  · obtain ⟨w, q⟩ := (x.bor j).mp ⟨u, e⟩
    exact ⟨w, by rw [set_get_ne (keepN q (.inl ⟨w, rfl⟩))]; exact q⟩
  · rcases out e with ⟨_, q, _⟩ | ⟨_, e1, _⟩
    · exact absurd q.symm (nbo u)
    · exact (x.bor j).mpr ⟨u, e1⟩
  · obtain ⟨w, q⟩ := (x.bor j).mp ⟨u, e⟩
    rw [List.getElem?_set_ne (keepN q (.inl ⟨w, rfl⟩))]
    exact x.borS j u e
  · have q := (x.lck j u).mp e
    rw [set_get_ne (keepN q (.inr ⟨u, rfl⟩))]; exact q
  · rcases out e with ⟨_, q, _⟩ | ⟨_, e1, _⟩
    · exact absurd q.symm (nlk u)
    · exact (x.lck j u).mpr e1
  · have q := (x.lck j u).mp e
    rw [List.getElem?_set_ne (keepN q (.inr ⟨u, rfl⟩))]
    exact x.lckS j u e
theorem MVal.own {σ : Sl} {H H' F' : Hp} {g g' : G} {r : Bool × T} {v : V} (h : MVal W σ H g H' F' g' r v) : OwnV W (fun a => H a = none ∨ Ow σ g a) σ H' F' g' r v := by
  unfold MVal at h
  unfold OwnV
  split
  · rename_i k
    rw [if_pos k] at h
    obtain ⟨a, o, h1, h2, h3, h4, h5, h6⟩ := h
    exact ⟨a, o, h1, h2, h3, h4, h5, h6⟩
  · rename_i k
    rw [if_neg k] at h
    exact h
/-- how a statement ends -/
def Fin (W : Wd) (D : Ends) (σ : Sl) (H F : Hp) (g : G) (fl : Fl) (g' : G) : Prop := match fl with
  | .next => ∀ σ' H' F', Ext W σ H F g σ' H' F' g' → D.nx σ' H'
  | .brk => ∀ σ' H' F', Ext W σ H F g σ' H' F' g' → D.bk σ' H'
  | .cont => ∀ σ' H' F', Ext W σ H F g σ' H' F' g' → D.ct σ' H'
  | .ret o t => ∀ v σ' H' F', Ext W σ H F g σ' H' F' g' → OwnV W (fun a => H a = none ∨ Ow σ g a) σ' H' F' g' (o, t) v → D.rt v H'
theorem OwnV.back {σ σ1 σ2 : Sl} {H F H1 F1 H2 F2 : Hp} {g g1 g2 : G} {r : Bool × T} {v : V} (x : Ext W σ H F g σ1 H1 F1 g1) (h : OwnV W (fun a => H1 a = none ∨ Ow σ1 g1 a) σ2 H2 F2 g2 r v) : OwnV W (fun a => H a = none ∨ Ow σ g a) σ2 H2 F2 g2 r v := by
  unfold OwnV at h ⊢
  split
  · rename_i k
    rw [if_pos k] at h
    obtain ⟨a, o, h1, h2, h3⟩ := h
    refine ⟨a, o, h1, ?_, h3⟩
    rcases h2 with h2 | h2
    · refine .inl ?_
      cases e : H a with
      | none => rfl
      | some o => obtain ⟨o', e'⟩ := x.dom a o e; rw [h2] at e'; cases e'
    · rcases x.ownO a h2 with q | q
      · exact .inr q
      · exact .inl q
  · rename_i k
    rw [if_neg k] at h
    exact h
theorem Fin.after {D : Ends} {σ σ1 : Sl} {H F H1 F1 : Hp} {g g1 g2 : G} {fl : Fl} (x : Ext W σ H F g σ1 H1 F1 g1) (h : Fin W D σ H F g fl g2) : Fin W D σ1 H1 F1 g1 fl g2 := by
  cases fl with
  | next => exact fun σ' H' F' y => h σ' H' F' (x.trans y)
  | brk => exact fun σ' H' F' y => h σ' H' F' (x.trans y)
  | cont => exact fun σ' H' F' y => h σ' H' F' (x.trans y)
  | ret o t => exact fun v σ' H' F' y k => h v σ' H' F' (x.trans y) (k.back x)
def tSt (W : Wd) (gl : String → Option T) (cl : Cl) (c : CS) : TS := fun D σ H => ∃ F g fl g', Sta W σ H F g ∧ evS gl cl c g = some (fl, g') ∧ Fin W D σ H F g fl g'
def tSs (W : Wd) (gl : String → Option T) (cl : Cl) (c : List CS) : TS := fun D σ H => ∃ F g fl g', Sta W σ H F g ∧ evSs gl cl c g = some (fl, g') ∧ Fin W D σ H F g fl g'
theorem sm_set {st : Stmt} {i : Nat} {e : CE} (h : PS X st (tSet W gl cl e i)) : PS X st (tSt W gl cl (.set i e)) := by
  refine h.mono' ?_
  rintro D σ H ⟨F, g, fl, g', st, ev, q⟩
  simp only [evS] at ev
  obtain ⟨r, g1, e1, f1⟩ := bind_some ev
  obtain ⟨_, g2, e2, f2⟩ := bind_some f1
  cases pure_some f2
  exact ⟨F, g, r, g1, st, e1, fun v H' F' x mv => q _ H' F' (x.x.put mv.own e2)⟩
theorem set_of {ex : Expr} {e : CE} {i : Nat} {y : Str} {p : Pos} (h : Sd W gl cl X ex e) (k : ∀ {te : TE}, PE X ex te → PS X (.Assign [.Name y p] ex pos) (tAsg te (gName i))) : PS X (.Assign [.Name y p] ex pos) (tSet W gl cl e i) := k h.moved
theorem sm_unp {ex tg : Expr} {e : CE} {tc : Tg} (h : Sd W gl cl X ex e) (hg : PG X tg (tG W tc)) (hs : swapsWithSole [tg] ex pos.line X.env = pure false) (hw : swappedStores [tg] ex X.env = pure none) (h1 : (assignEach [tg] X.env).map (·.2) = [assign tg X.env]) : PS X (.Assign [tg] ex pos) (tSt W gl cl (.unp tc e)) := by
  refine (ps_asg h.kept hg hs hw h1).mono' ?_
  rintro D σ H ⟨F, g, fl, g', st, ev, q⟩
  simp only [evS] at ev
  obtain ⟨t, g1, e1, f1⟩ := bind_some ev
  obtain ⟨_, g2, e2, f2⟩ := bind_some f1
  cases pure_some f2
  exact ⟨F, g, t, g1, st, e1, fun v H1 F1 x r => ⟨F1, g1, t, _, x.st, r, e2, fun σ' y _ _ _ => q σ' H1 F1 (x.x.trans y)⟩⟩
theorem pset_or {t u : TSet} (h : PSet X t) (k : PSet X u) : PSet X (fun o i v H Q => t o i v H Q ∨ u o i v H Q) := fun pins s σ H o i v ov iv w Q I r1 r2 r3 q => by
  rcases q with q | q
  · exact h pins s σ H o i v ov iv w Q I r1 r2 r3 q
  · exact k pins s σ H o i v ov iv w Q I r1 r2 r3 q
theorem Rep.keyD {F H : Hp} {a : Addr} {ws : List (Key × V)} {kvs : List (T × T)} {u v : V} {x t : T} (ha : H a = some (.dK ws)) (h : RepD W F ws kvs) (k : Rep W F u x) (ok : x.keyOk false = true) (hl : kvs.length < lim) (r : Rep W F v t) : ∃ ws', DPut H a u v (upd H a (.dK ws')) ∧ RepD W F ws' (dput kvs x t) := by
  obtain ⟨k', kt, rfl⟩ := k.key ok
  refine ⟨_, .k ha ?_, h.put kt r⟩
  have : ws.length = kvs.length := h.length
  have := lim_le
  omega
theorem Rep.keyE {F H : Hp} {a : Addr} {ws : List (List Key × V)} {kvs : List (T × T)} {u v : V} {x t : T} (sm : Same F H) (ha : H a = some (.dT ws)) (h : RepE W F ws kvs) (k : Rep W F u x) (ok : x.keyOk true = true) (hl : kvs.length < lim) (r : Rep W F v t) : ∃ ws', DPut H a u v (upd H a (.dT ws')) ∧ RepE W F ws' (dput kvs x t) := by
  obtain ⟨xs, ks, b, rfl, kt, rfl, kb⟩ := k.keyT ok
  refine ⟨_, .t ha (sm _ _ kb) ?_, h.put kt r⟩
  have : ws.length = kvs.length := h.length
  have := lim_le
  omega
theorem sm_setIx {ox ix ex : Expr} {o : Nat} {i e : CE} {p : Pos} (hu : X.A.units + 1 < cLine) (ho : PE X ox (tVar o)) (hi : Sd W gl cl X ix i) (h : Sd W gl cl X ex e) (hs : swapsWithSole [.Subscript ox ix p] ex pos.line X.env = pure false) (hw : swappedStores [.Subscript ox ix p] ex X.env = pure none) (h1 : (assignEach [.Subscript ox ix p] X.env).map (·.2) = [assign (.Subscript ox ix p) X.env])
    (ha : ∀ v, assign (.Subscript ox ix p) X.env v = (do
      let ov ← holding [v] (eval ox X.env)
      let iv ← holding [v, ov] (eval ix X.env)
      standAt p
      holding [v, ov, iv] (setItem ov iv v)
      release [v, ov, iv] [])) : PS X (.Assign [.Subscript ox ix p] ex pos) (tSt W gl cl (.setIx o i e)) := by
  refine (ps_asg h.kept (pg_sub ho hi.kept (pset_or set_list (set_dict hu)) ha) hs hw h1).mono' ?_
  rintro D σ H ⟨F, g, fl, g', st, ev, q⟩
  simp only [evS] at ev
  obtain ⟨t, g1, e1, f1⟩ := bind_some ev
  obtain ⟨tt, g0, e0, f0⟩ := bind_some f1
  obtain ⟨rfl, s0, m01, m02⟩ := mine_some e0
  obtain ⟨k, g2, e2, f2⟩ := bind_some f0
  obtain ⟨t0, g3, e3, f3⟩ := bind_some f2
  obtain ⟨t1, g4, e4, f4⟩ := bind_some f3
  obtain ⟨e5, rfl⟩ := lift_some e4
  obtain ⟨_, g5, e6, f5⟩ := bind_some f4
  cases pure_some f5
  refine ⟨F, g, t, _, st, e1, fun v H1 F1 x1 r1 => ?_⟩
  obtain ⟨rfl, s, m1, m2⟩ := mine_some e3
  have nv : ∃ b : V, σ[o]? = some (some b) := by
    obtain ⟨a, ob, h1, _⟩ := (x1.st.slot o s0 m01).mine (Slot.mine_of_mut m02)
    exact ⟨_, h1⟩
  obtain ⟨b, hb⟩ := nv
  refine ⟨b, hb, F1, _, k, _, x1.st, e2, fun kv H2 F2 x2 r2 => ?_⟩
  obtain ⟨a, ob, h1, h2, h3, h4⟩ := (x2.st.slot o s m1).mine (Slot.mine_of_mut m2)
  rw [hb] at h1; cases h1
  have r1' := r1.mono x2.x.mono
  cases h4 with
  | @lst vs ts hr =>
    cases k with
    | int n =>
      simp only [set2] at e5
      split at e5
      · rename_i j hj
        cases e5
        cases r2
        refine .inl ⟨a, vs, n, j, rfl, rfl, h3, by rw [hr.length, ← place_ix]; exact hj, ?_⟩
        have w := x2.st.write (o' := .lst (vs.set j v)) m1 m2 hb h3 (.lst (hr.set j r1')) e6
        exact q σ _ F2 ((x1.trans x2).trans w).x
      · cases e5
    | _ => simp only [set2] at e5; cases e5
  | @dK ws kvs hr =>
    simp only [set2] at e5
    split at e5
    · rename_i c
      cases e5
      obtain ⟨c1, c2⟩ := Bool.and_eq_true_iff.mp c
      obtain ⟨ws', d1, d2⟩ := Rep.keyD h3 hr r2 c1 (of_decide_eq_true c2) r1'
      refine .inr ⟨a, _, rfl, d1, ?_⟩
      have w := x2.st.write (o' := .dK ws') m1 m2 hb h3 (.dK d2) e6
      exact q σ _ F2 ((x1.trans x2).trans w).x
    · cases e5
  | @dT ws kvs hr =>
    simp only [set2] at e5
    split at e5
    · rename_i c
      cases e5
      obtain ⟨c1, c2⟩ := Bool.and_eq_true_iff.mp c
      obtain ⟨ws', d1, d2⟩ := Rep.keyE x2.st.same h3 hr r2 c1 (of_decide_eq_true c2) r1'
      refine .inr ⟨a, _, rfl, d1, ?_⟩
      have w := x2.st.write (o' := .dT ws') m1 m2 hb h3 (.dT d2) e6
      exact q σ _ F2 ((x1.trans x2).trans w).x
    · cases e5
  | ins _ _ => simp only [set2] at e5; cases e5
end
end PV

/-! PV23: statements, blocks, loops -/
namespace PV
open PySem PySem.Spec PyProof.Rows L2
section
variable {W : Wd} {gl : String → Option T} {cl : Cl} {X : Cx} {pos : Pos}
theorem RepF.put {F : Hp} {fs : List (Str × V)} {gs : List (String × T)} {f : String} {v : V} {t : T} (h : RepF W F fs gs) (r : Rep W F v t) : RepF W F (putF (Str.ofString f) v fs) (fput f t gs) := by
  induction gs generalizing fs with
  | nil => cases h; exact .cons r .nil
  | cons p q ih =>
    cases h with
    | @cons f' v' fs' t' gs' a b =>
      simp only [putF, fput]
      by_cases e : f' = f
      · subst e
        simp only [beq_self_eq_true, if_true]
        exact .cons r b
      · have e1 : ¬ Str.ofString f' = Str.ofString f := fun z => e (ofString_inj z)
        have e2 : (f' == f) = false := by simpa using e
        simp only [e1, e2, if_false, Bool.false_eq_true]
        exact .cons a (ih b)
theorem RepF.length {F : Hp} {fs : List (Str × V)} {gs : List (String × T)} (h : RepF W F fs gs) : fs.length = gs.length := by
  induction gs generalizing fs with
  | nil => cases h; rfl
  | cons p q ih => cases h with | cons a b => simp [ih b]
theorem sm_setFld {ox ex : Expr} {f : String} {e : CE} {p : Pos} {flds : List String} (hK : X.K = W.K) (C : Clss W flds) (hf : f ∈ flds) (ho : PE X ox (tVar 0)) (h : Sd W gl cl X ex e) (hs : swapsWith ex (some (.Attribute ox (Str.ofString f) p)) pos.line X.env = pure false) : PS X (.Assign [.Attribute ox (Str.ofString f) p] ex pos) (tSt W gl cl (.setFld f e)) := by
  refine (ps_fld ho h.kept hs).mono' ?_
  rintro D σ H ⟨F, g, fl, g', st, ev, q⟩
  simp only [evS] at ev
  obtain ⟨t, g1, e1, f1⟩ := bind_some ev
  obtain ⟨t0, g2, e2, f2⟩ := bind_some f1
  obtain ⟨rfl, s, m1, m2⟩ := mine_some e2
  cases t0 with
  | ins c fs =>
    obtain ⟨_, g3, e3, f3⟩ := bind_some f2
    obtain ⟨hl, rfl⟩ := ask_some e3
    obtain ⟨_, g4, e4, f4⟩ := bind_some f3
    cases pure_some f4
    refine ⟨F, g, t, _, st, e1, fun v H1 F1 x1 r1 => ?_⟩
    obtain ⟨a, ob, h1, h2, h3, h4⟩ := (x1.st.slot 0 s m1).mine (Slot.mine_of_mut m2)
    cases h4 with
    | @ins D' dx c' fs' gs' hc hr =>
      have co := C.ok _ _ hc
      refine ⟨_, h1, a, D', dx, fs', rfl, h3, by rw [hK]; exact co.ins.cl, by rw [hK]; exact co.noat f hf, ?_, ?_⟩
      · have := hr.length
        have := of_decide_eq_true hl
        omega
      · have w := x1.st.write (o' := .ins D' dx (putF (Str.ofString f) v fs')) m1 m2 h1 h3 (.ins hc (hr.put r1)) e4
        exact q σ _ F1 (x1.trans w).x
  | _ => cases f2
theorem sm_expr {ex : Expr} {e : CE} (h : Sd W gl cl X ex e) (hs : swapsWith ex none pos.line X.env = pure false) : PS X (.Expr ex pos) (tSt W gl cl (.expr e)) := by
  refine (ps_expr h.pe hs).mono' ?_
  rintro D σ H ⟨F, g, fl, g', st, ev, q⟩
  simp only [evS] at ev
  obtain ⟨r, g1, e1, f1⟩ := bind_some ev
  cases pure_some f1
  exact ⟨F, g, r, _, st, e1, fun v H1 F1 x1 _ => q σ H1 F1 x1.x⟩
theorem sm_doc {x j pos'} : PS X (.Expr (.Constant (.str x) j pos) pos') (tSt W gl cl .pass) := by
  refine ps_doc.mono' ?_
  rintro D σ H ⟨F, g, fl, g', st, ev, q⟩
  simp only [evS] at ev
  cases pure_some ev
  exact q σ H F st.refl
theorem sm_ret {ex : Expr} {e : CE} (h : Sd W gl cl X ex e) : PS X (.Return (some ex) pos) (tSt W gl cl (.ret [e])) := by
  refine (ps_ret h.moved).mono' ?_
  rintro D σ H ⟨F, g, fl, g', st, ev, q⟩
  simp only [evS] at ev
  obtain ⟨r, g1, e1, f1⟩ := bind_some ev
  cases pure_some f1
  exact ⟨F, g, r, _, st, e1, fun v H1 F1 x1 mv => q v σ H1 F1 x1.x mv.own⟩
theorem sm_ret0 : PS X (.Return none pos) (tSt W gl cl (.ret [])) := by
  refine ps_retN.mono' ?_
  rintro D σ H ⟨F, g, fl, g', st, ev, q⟩
  simp only [evS] at ev
  cases pure_some ev
  exact q .non σ H F st.refl .non
theorem sm_pass : PS X (.Pass pos) (tSt W gl cl .pass) := by
  refine ps_pass.mono' ?_
  rintro D σ H ⟨F, g, fl, g', st, ev, q⟩
  simp only [evS] at ev
  cases pure_some ev
  exact q σ H F st.refl
theorem sm_brk : PS X (.Break pos) (tSt W gl cl .brk) := by
  refine ps_break.mono' ?_
  rintro D σ H ⟨F, g, fl, g', st, ev, q⟩
  simp only [evS] at ev
  cases pure_some ev
  exact q σ H F st.refl
theorem sm_cont : PS X (.Continue pos) (tSt W gl cl .cont) := by
  refine ps_continue.mono' ?_
  rintro D σ H ⟨F, g, fl, g', st, ev, q⟩
  simp only [evS] at ev
  cases pure_some ev
  exact q σ H F st.refl
theorem sm_dead {s : Stmt} : PS X s (tSt W gl cl .dead) := by
  refine ps_never.mono' ?_
  rintro D σ H ⟨F, g, fl, g', st, ev, q⟩
  simp only [evS] at ev
  cases ev
theorem ss_nil : PSs X [] (tSs W gl cl []) := by
  refine pss_nil.mono' ?_
  rintro D σ H ⟨F, g, fl, g', st, ev, q⟩
  simp only [evSs] at ev
  cases pure_some ev
  exact q σ H F st.refl
theorem ss_cons {s : Stmt} {ss : List Stmt} {c : CS} {cs : List CS} (h : PS X s (tSt W gl cl c)) (hr : PSs X ss (tSs W gl cl cs)) : PSs X (s :: ss) (tSs W gl cl (c :: cs)) := by
  refine (pss_cons h hr).mono' ?_
  rintro D σ H ⟨F, g, fl, g', st, ev, q⟩
  simp only [evSs] at ev
  obtain ⟨f, g1, e1, f1⟩ := bind_some ev
  refine ⟨F, g, f, g1, st, e1, ?_⟩
  cases f with
  | next => exact fun σ' H' F' x => ⟨F', g1, fl, g', x.st, f1, q.after x⟩
  | brk => cases pure_some f1; exact q
  | cont => cases pure_some f1; exact q
  | ret o t => cases pure_some f1; exact q
theorem sm_if {cx : Expr} {as bs : List Stmt} {c : CE} {a b : List CS} (hc : St W gl cl X cx c) (ha : PSs X as (tSs W gl cl a)) (hb : PSs X bs (tSs W gl cl b)) : PS X (.If cx as bs pos) (tSt W gl cl (.ite c a b)) := by
  refine (ps_if hc ha hb).mono' ?_
  rintro D σ H ⟨F, g, fl, g', st, ev, q⟩
  simp only [evS] at ev
  obtain ⟨k, g1, e1, f1⟩ := bind_some ev
  refine ⟨F, g, k, g1, st, e1, fun H1 F1 x1 => ?_⟩
  cases k with
  | true => exact ⟨F1, g1, fl, g', x1.st, f1, q.after x1.x⟩
  | false => exact ⟨F1, g1, fl, g', x1.st, f1, q.after x1.x⟩
theorem sm_while {cx : Expr} {bs : List Stmt} {c : CE} {b : List CS} (hp : PassesOwn (model X.prog X.w) X.A X.env X.xe) (hc : St W gl cl X cx c) (hb : PSs X bs (tSs W gl cl b)) : PS X (.While cx bs [] pos) (tSt W gl cl (.while c b)) := by
  refine (ps_while hp hc hb).mono' ?_
  rintro D σ H ⟨F, g, fl, g', st, ev, q⟩
  simp only [evS] at ev
  refine ⟨fun m σ' H' => ∃ F1 g1, Ext W σ H F g σ' H' F1 g1 ∧ loopW (evT gl cl c) (evSs gl cl b) m g1 = some (fl, g'), ⟨turns, F, g, st.refl, ev⟩, ?_⟩
  rintro m σ' H' ⟨F1, g1, x1, e1⟩
  cases m with
  | zero => simp only [loopW] at e1; cases e1
  | succ m =>
    simp only [loopW] at e1
    obtain ⟨k, g2, e2, f2⟩ := bind_some e1
    refine ⟨F1, g1, k, g2, x1.st, e2, fun H2 F2 x2 => ?_⟩
    cases k with
    | false =>
      simp only [Bool.false_eq_true, if_false] at f2 ⊢
      cases pure_some f2
      exact q σ' H2 F2 (x1.trans x2.x)
    | true =>
      simp only [if_true] at f2 ⊢
      obtain ⟨f, g3, e3, f3⟩ := bind_some f2
      refine ⟨fun σ3 H3 => ∃ F3, Ext W σ H F g σ3 H3 F3 g3 ∧ loopW (evT gl cl c) (evSs gl cl b) m g3 = some (fl, g'), fun σ3 H3 ⟨F3, a, b⟩ => ⟨m, Nat.lt_succ_self _, F3, g3, a, b⟩, F2, g2, f, g3, x2.st, e3, ?_⟩
      cases f with
      | next => exact fun σ3 H3 F3 x3 => ⟨F3, (x1.trans x2.x).trans x3, f3⟩
      | cont => exact fun σ3 H3 F3 x3 => ⟨F3, (x1.trans x2.x).trans x3, f3⟩
      | brk =>
        cases pure_some f3
        exact fun σ3 H3 F3 x3 => q σ3 H3 F3 ((x1.trans x2.x).trans x3)
      | ret o t =>
        cases pure_some f3
        exact fun v σ3 H3 F3 x3 mv => q v σ3 H3 F3 ((x1.trans x2.x).trans x3) (mv.back (x1.trans x2.x))
theorem OwnV.imp {P P' : Addr → Prop} {σ : Sl} {H F : Hp} {g g' : G} {r : Bool × T} {v : V} (h : OwnV W P σ H F g r v) (hp : ∀ a, P a → P' a) (hg : ∀ (i : Nat) (s : Slot) (u : T), g'[i]? = some s → s.mineT = some u → ∃ s' u', g[i]? = some s' ∧ s'.mineT = some u') : OwnV W P' σ H F g' r v := by
  unfold OwnV at h ⊢
  split
  · rename_i k
    rw [if_pos k] at h
    obtain ⟨a, o, h1, h2, h3, h4, h5, h6⟩ := h
    refine ⟨a, o, h1, hp a h2, h3, h4, h5, fun i s u e m => ?_⟩
    obtain ⟨s', u', e', m'⟩ := hg i s u e m
    exact h6 i s' u' e' m'
  · rename_i k
    rw [if_neg k] at h
    exact h
theorem unlock_mine {j : Option Nat} {σ σ' : Sl} {H F H' F' : Hp} {g g' : G} (x : Ext W σ H F (lockG j g) σ' H' F' g') : ∀ (i : Nat) (s : Slot) (u : T), (unlockG j g g')[i]? = some s → s.mineT = some u → ∃ s' u', g'[i]? = some s' ∧ s'.mineT = some u' := by
  intro i s u e m
  cases j with
  | none => exact ⟨s, u, e, m⟩
  | some j =>
    cases ej : g[j]? with
    | none => simp only [unlockG, ej] at e; exact ⟨s, u, e, m⟩
    | some s0 =>
      cases s0 with
      | ow t =>
        simp only [lockG, unlockG, ej] at x e
        rcases get_set e with ⟨rfl, _⟩ | ⟨_, e⟩
        · exact ⟨_, t, (x.lck j t).mp (set_get ej), rfl⟩
        · exact ⟨s, u, e, m⟩
      | _ => simp only [unlockG, ej] at e; exact ⟨s, u, e, m⟩
theorem lock_ow {j : Option Nat} {σ : Sl} {g : G} {a : Addr} (h : Ow σ (lockG j g) a) : Ow σ g a := by
  obtain ⟨i, t, e, z⟩ := h
  cases j with
  | none => exact ⟨i, t, e, z⟩
  | some j =>
    cases ej : g[j]? with
    | none => simp only [lockG, ej] at e; exact ⟨i, t, e, z⟩
    | some s0 =>
      cases s0 with
      | ow t0 =>
        simp only [lockG, ej] at e
        rcases get_set e with ⟨_, k⟩ | ⟨_, e⟩
        · cases k
        · exact ⟨i, t, e, z⟩
      | _ => simp only [lockG, ej] at e; exact ⟨i, t, e, z⟩
theorem sm_for {tx ix : Expr} {bs : List Stmt} {tg : Tg} {it : CI} {b : List CS} (hp : PassesOwn (model X.prog X.w) X.A X.env X.xe) (hc : X.calm = true) (hi : PI X tx ix (tI W gl cl it)) (hg : PG X tx (tG W tg)) (hb : PSs X bs (tSs W gl cl b)) (hs : ∀ x, foldedSetIterable ix X.env x = pure x) : PS X (.For tx ix bs [] pos) (tSt W gl cl (.for tg it b)) := by
  refine (ps_for hp hc hi hg hb hs).mono' ?_
  rintro D σ H ⟨F, g, fl, g', st, ev, q⟩
  simp only [evS] at ev
  obtain ⟨src, g1, e1, f1⟩ := bind_some ev
  obtain ⟨nb, gE, e2, rfl⟩ := during_some f1
  generalize hf : (fun x => do tgt tg x; evSs gl cl b : T → M Fl) = f at e2
  have hf' : ∀ x g, f x g = (do tgt tg x; evSs gl cl b : M Fl) g := fun x g => by rw [← hf]
  refine ⟨F, g, src, g1, st, e1, fun J H1 F1 x1 wl => ?_⟩
  rcases wl with wl | ⟨S, wk, hS⟩
  · exact absurd wl nb
  have stL : Sta W σ H1 F1 (lockG src.1 g1) := x1.st.lock _
  refine ⟨fun i m σ' H' => m = src.2.length - i ∧ i ≤ src.2.length ∧ ∃ F' g', Ext W σ H1 F1 (lockG src.1 g1) σ' H' F' g' ∧ loopF f (src.2.drop i) g' = some (fl, gE), ⟨_, rfl, Nat.zero_le _, F1, _, stL.refl, by rw [List.drop_zero]; exact e2⟩, ?_⟩
  rintro i m σ' H' ⟨rfl, hi, F', g', x', ef⟩
  have hS' : S σ' H' F' g' := wk.stable hS (x'.keeps stL)
  -- the whole loop's end
  have fin : ∀ {σ3 : Sl} {H3 F3 : Hp}, Ext W σ H1 F1 (lockG src.1 g1) σ3 H3 F3 gE → Ext W σ H F g σ3 H3 F3 (unlockG src.1 g1 gE) := fun x3 => x1.x.trans (Ext.unlock x1.st x3)
  by_cases hlt : i < src.2.length
  · have hN : ∀ (gc : G) (σ3 : Sl) (H3 : Hp), (∃ F3, Ext W σ H1 F1 (lockG src.1 g1) σ3 H3 F3 gc ∧ loopF f (src.2.drop (i + 1)) gc = some (fl, gE)) → ∃ m', m' < src.2.length - i ∧ (m' = src.2.length - (i + 1) ∧ i + 1 ≤ src.2.length ∧ ∃ F' g', Ext W σ H1 F1 (lockG src.1 g1) σ3 H3 F' g' ∧ loopF f (src.2.drop (i + 1)) g' = some (fl, gE)) := fun gc σ3 H3 ⟨F3, a, b⟩ => ⟨_, by omega, rfl, hlt, F3, gc, a, b⟩
    have hd : ∃ t, src.2[i]? = some t := ⟨_, List.getElem?_eq_getElem hlt⟩
    obtain ⟨t, ht⟩ := hd
    rw [drop_at ht] at ef
    simp only [loopF] at ef
    obtain ⟨fb, gc, c1, c2⟩ := bind_some ef
    rw [hf'] at c1
    obtain ⟨_, gb, c3, c4⟩ := bind_some c1
    refine .inr ⟨wk.go hS' hlt, fun σ3 H3 => ∃ F3, Ext W σ H1 F1 (lockG src.1 g1) σ3 H3 F3 gc ∧ loopF f (src.2.drop (i + 1)) gc = some (fl, gE), hN gc, fun x H2 y => ?_⟩
    obtain ⟨t', ht', F2, out⟩ := wk.yld hS' x'.st.same hlt y
    rw [ht] at ht'; cases ht'
    have xa := out.ext x'.st
    refine ⟨F2, g', t, gb, xa.st, out.val, c3, fun σ2 xb _ _ _ => ⟨F2, gb, fb, gc, xb.st, c4, ?_⟩⟩
    have x2 := (x'.trans xa).trans xb
    cases fb with
    | next => exact fun σ3 H3 F3 x3 => ⟨F3, x2.trans x3, c2⟩
    | cont => exact fun σ3 H3 F3 x3 => ⟨F3, x2.trans x3, c2⟩
    | brk =>
      cases pure_some c2
      exact fun σ3 H3 F3 x3 => q σ3 H3 F3 (fin (x2.trans x3))
    | ret o u =>
      cases pure_some c2
      refine fun v σ3 H3 F3 x3 mv => q v σ3 H3 F3 (fin (x2.trans x3)) ?_
      refine OwnV.imp (mv.back x2) (fun a k => ?_) (unlock_mine (x2.trans x3))
      rcases k with k | k
      · refine .inl ?_
        cases e : H a with
        | none => rfl
        | some o => obtain ⟨o', e'⟩ := x1.x.dom a o e; rw [k] at e'; cases e'
      · rcases x1.x.ownO a (lock_ow k) with r | r
        · exact .inr r
        · exact .inl r
  · have e : i = src.2.length := by omega
    subst e
    rw [List.drop_length] at ef
    simp only [loopF] at ef
    cases pure_some ef
    exact .inl ⟨wk.stop hS' (Nat.le_refl _), q _ _ _ (fin x')⟩
/-! ### several at once -/
/-- values, new ones own -/
inductive NV (W : Wd) (H0 H F : Hp) : List (Bool × T) → List V → Prop
  | nil : NV W H0 H F [] []
  | own {t : T} {a : Addr} {o : HO} {rs : List (Bool × T)} {vs : List V} : H0 a = none → H a = some o → F a = none → RepO W F o t → (∀ (i : Nat) (r : Bool × T) (v : V), rs[i]? = some r → vs[i]? = some v → r.1 = true → v ≠ V.ref a) → NV W H0 H F rs vs → NV W H0 H F ((true, t) :: rs) (.ref a :: vs)
  | rep {t : T} {v : V} {rs : List (Bool × T)} {vs : List V} : Rep W F v t → NV W H0 H F rs vs → NV W H0 H F ((false, t) :: rs) (v :: vs)
theorem NV.fresh {H0 H F : Hp} {rs : List (Bool × T)} {vs : List V} (h : NV W H0 H F rs vs) : ∀ (i : Nat) (r : Bool × T) (v : V), rs[i]? = some r → vs[i]? = some v → r.1 = true → ∃ a, v = .ref a ∧ H0 a = none := by
  induction h with
  | nil => intro i r v e; simp at e
  | own h1 h2 h3 h4 h5 _ ih =>
    intro i r v e1 e2 k
    cases i with
    | zero => simp at e1 e2; subst e1 e2; exact ⟨_, rfl, h1⟩
    | succ i => exact ih i r v (by simpa using e1) (by simpa using e2) k
  | rep h1 _ ih =>
    intro i r v e1 e2 k
    cases i with
    | zero => simp at e1 e2; subst e1 e2; cases k
    | succ i => exact ih i r v (by simpa using e1) (by simpa using e2) k
theorem NV.from {H0 H1 H F : Hp} {rs : List (Bool × T)} {vs : List V} (h : NV W H1 H F rs vs) (d : ∀ a, H1 a = none → H0 a = none) : NV W H0 H F rs vs := by
  induction h with
  | nil => exact .nil
  | own h1 h2 h3 h4 h5 _ ih => exact .own (d _ h1) h2 h3 h4 h5 ih
  | rep h1 _ ih => exact .rep h1 ih
def tN (W : Wd) (gl : String → Option T) (cl : Cl) (es : List CE) : TA := fun σ H Q => ∃ F g rs g', Sta W σ H F g ∧ evNews gl cl es g = some (rs, g') ∧ ∀ vs H' F', ExE W σ H F g H' F' g' → NV W H H' F' rs vs → Q vs H'
theorem pa_news_nil : PA X [] (tN W gl cl []) := by
  refine pa_nil.mono' ?_
  rintro σ H Q ⟨F, g, rs, g', st, ev, q⟩
  simp only [evNews] at ev
  cases pure_some ev
  exact q [] H F (.refl st) .nil
theorem undom {σ : Sl} {H F H' F' : Hp} {g g' : G} (x : ExE W σ H F g H' F' g') : ∀ a, H' a = none → H a = none := fun a h => by
  cases e : H a with
  | none => rfl
  | some o => obtain ⟨o', e'⟩ := x.x.dom a o e; rw [h] at e'; cases e'
theorem pa_news_cons {e : Expr} {es : List Expr} {c : CE} {cs : List CE} (ns : notStar e = true) (h : Sd W gl cl X e c) (hr : PA X es (tN W gl cl cs)) : PA X (e :: es) (tN W gl cl (c :: cs)) := by
  by_cases hv : c.isVar = true
  · obtain ⟨j, rfl⟩ : ∃ i, c = .var i := by cases c <;> first | exact ⟨_, rfl⟩ | cases hv
    refine (pa_cons h.kept hr (star_no ns)).mono' ?_
    rintro σ H Q ⟨F, g, rs, g', st, ev, q⟩
    simp only [evNews, newOr] at ev
    obtain ⟨r, g1, e1, f1⟩ := bind_some ev
    obtain ⟨t, g0, e0, f0⟩ := bind_some e1
    cases pure_some f0
    obtain ⟨rs', g2, e2, f2⟩ := bind_some f1
    cases pure_some f2
    refine ⟨F, g, t, _, st, by simpa only [kept] using e0, fun v H1 F1 x1 r1 => ⟨F1, _, rs', _, x1.st, e2, fun vs H2 F2 x2 nv => q _ H2 F2 (x1.trans x2) (.rep (r1.mono x2.x.mono) (nv.from (undom x1)))⟩⟩
  · have hv : c.isVar = false := by simpa using hv
    refine (pa_cons h.pe hr (star_no ns)).mono' ?_
    rintro σ H Q ⟨F, g, rs, g', st, ev, q⟩
    have ev' : (do let x ← evX gl cl c; let xs ← evNews gl cl cs; M.pure (x :: xs) : M (List (Bool × T))) g = some (rs, g') := by
      cases c <;> first | (simpa only [evNews, newOr] using ev) | cases hv
    obtain ⟨r, g1, e1, f1⟩ := bind_some ev'
    obtain ⟨rs', g2, e2, f2⟩ := bind_some f1
    cases pure_some f2
    refine ⟨F, g, r, g1, st, e1, fun v H1 F1 x1 r1 => ⟨F1, g1, rs', _, x1.st, e2, fun vs H2 F2 x2 nv => q _ H2 F2 (x1.trans x2) ?_⟩⟩
    unfold Val at r1
    obtain ⟨b, t⟩ := r
    cases b with
    | true =>
      rw [if_pos rfl] at r1
      obtain ⟨a, o, rfl, h0, h1, h2, h3⟩ := r1
      have ap := x1.apart st h0
      have nM : ¬ Mu σ g1 a := fun ⟨i, s, u, k1, k2, k3⟩ => ap i s u k1 (Slot.mine_of_mut k2) k3
      refine .own h0 (x2.x.keep a o h1 nM) ?_ (h3.mono x2.x.mono) ?_ (nv.from (undom x1))
      · cases e : F2 a with
        | none => rfl
        | some u =>
          rcases x2.x.newF a u e with k | k | ⟨i, w, k1, k2⟩
          · rw [h2] at k; cases k
          · rw [h1] at k; cases k
          · exact absurd k2 (ap i _ w k1 rfl)
      · rintro i r v k1 k2 k3 rfl
        obtain ⟨b, k4, k5⟩ := nv.fresh i r _ k1 k2 k3
        cases k4
        rw [h1] at k5; cases k5
    | false =>
      rw [if_neg (by simp), if_neg (by rw [hv]; simp)] at r1
      exact .rep (r1.mono x2.x.mono) (nv.from (undom x1))
def setAll (σ : Sl) : List Nat → List V → Sl
  | i :: is, v :: vs => setAll (σ.set i (some v)) is vs
  | _, _ => σ
theorem putAll_len : ∀ {is : List Nat} {rs : List (Bool × T)} {g g' : G} {u : Unit}, putAll is rs g = some (u, g') → rs.length = is.length
  | [], [], _, _, _, _ => rfl
  | [], _ :: _, _, _, _, h => by simp only [putAll] at h; cases h
  | _ :: _, [], _, _, _, h => by simp only [putAll] at h; cases h
  | _ :: is, _ :: rs, _, _, _, h => by
    simp only [putAll] at h
    obtain ⟨_, g1, e1, f1⟩ := bind_some h
    simp [putAll_len f1]
theorem NV.len {H0 H F : Hp} {rs : List (Bool × T)} {vs : List V} (h : NV W H0 H F rs vs) : vs.length = rs.length := by
  induction h with
  | nil => rfl
  | own _ _ _ _ _ _ ih => simp [ih]
  | rep _ _ ih => simp [ih]
theorem putAll_ext {σ0 : Sl} {H0 F0 H F : Hp} {g0 : G} {rs : List (Bool × T)} {vs : List V} (h : NV W H0 H F rs vs) : ∀ {is : List Nat} {σ : Sl} {g g' : G} {u : Unit}, Ext W σ0 H0 F0 g0 σ H F g → (∀ (i : Nat) (r : Bool × T) (v : V) (a : Addr), rs[i]? = some r → vs[i]? = some v → r.1 = true → v = V.ref a → ∀ (j : Nat) (s : Slot) (u : T), g[j]? = some s → s.mineT = some u → σ[j]? ≠ some (some (.ref a))) →
    putAll is rs g = some (u, g') → Ext W σ0 H0 F0 g0 (setAll σ is vs) H F g' := by
  induction h with
  | nil =>
    intro is σ g g' u x _ e
    cases is with
    | nil => simp only [putAll] at e; cases pure_some e; exact x
    | cons _ _ => simp only [putAll] at e; cases e
  | @own t a o rs vs h1 h2 h3 h4 h5 _ ih =>
    intro is σ g g' u x ap e
    cases is with
    | nil => simp only [putAll] at e; cases e
    | cons i is =>
      simp only [putAll] at e
      obtain ⟨_, g1, e1, f1⟩ := bind_some e
      have y := x.put (r := (true, t)) (v := .ref a) (by unfold OwnV; rw [if_pos rfl]; exact ⟨a, o, rfl, .inl h1, h2, h3, h4, ap 0 (true, t) (.ref a) a rfl rfl rfl rfl⟩) e1
      refine ih y (fun k r v b k1 k2 k3 k4 j s w k5 k6 z => ?_) f1
      obtain ⟨rfl, s0, l1, _⟩ := put_some e1
      have hi : i < σ.length := by rw [← x.st.len]; exact (List.getElem?_eq_some_iff.mp l1).1
      rcases get_set k5 with ⟨rfl, _⟩ | ⟨ne, k5⟩
      · rw [List.getElem?_set_self hi] at z
        cases z
        exact h5 k r v k1 k2 k3 k4
      · rw [List.getElem?_set_ne ne] at z
        exact ap (k + 1) r v b (by simpa using k1) (by simpa using k2) k3 k4 j s w k5 k6 z
  | @rep t v rs vs h1 _ ih =>
    intro is σ g g' u x ap e
    cases is with
    | nil => simp only [putAll] at e; cases e
    | cons i is =>
      simp only [putAll] at e
      obtain ⟨_, g1, e1, f1⟩ := bind_some e
      have y := x.put (r := (false, t)) (v := v) (by unfold OwnV; rw [if_neg (by simp)]; exact h1) e1
      refine ih y (fun k r v b k1 k2 k3 k4 j s w k5 k6 z => ?_) f1
      obtain ⟨rfl, s0, l1, _⟩ := put_some e1
      rcases get_set k5 with ⟨rfl, q⟩ | ⟨ne, k5⟩
      · rw [q] at k6; cases k6
      · rw [List.getElem?_set_ne ne] at z
        exact ap (k + 1) r v b (by simpa using k1) (by simpa using k2) k3 k4 j s w k5 k6 z
/-- the two ways of a store of several names, in one: the names get the values -/
def tParN (is : List Nat) (ta : TA) : TS := fun D σ H => ta σ H fun vs H1 => vs.length = is.length ∧ ∀ H2, Same H1 H2 → (∀ a o, H2 a = some o → H1 a = some o ∨ H1 a = none) → D.nx (setAll σ is vs) H2
theorem tN_imp {cs : List CE} {σ : Sl} {H : Hp} {Q Q' : List V → Hp → Prop} (h : tN W gl cl cs σ H Q) (m : ∀ vs H, Q vs H → Q' vs H) : tN W gl cl cs σ H Q' := by
  obtain ⟨F, g, rs, g', st, ev, q⟩ := h
  exact ⟨F, g, rs, g', st, ev, fun vs H' F' x nv => m _ _ (q vs H' F' x nv)⟩
theorem sm_par {s : Stmt} {is : List Nat} {cs : List CE} (hs : PS X s (tParN is (tN W gl cl cs))) : PS X s (tSt W gl cl (.par is cs)) := by
  refine hs.mono' ?_
  rintro D σ H ⟨F, g, fl, g', st, ev, q⟩
  simp only [evS] at ev
  obtain ⟨_, g0, e0, f0⟩ := bind_some ev
  obtain ⟨nd, rfl⟩ := ask_some e0
  obtain ⟨rs, g1, e1, f1⟩ := bind_some f0
  obtain ⟨_, g2, e2, f2⟩ := bind_some f1
  cases pure_some f2
  refine ⟨F, g0, rs, g1, st, e1, fun vs H1 F1 x1 nv => ⟨nv.len.trans (putAll_len e2), fun H2 s2 _ => ?_⟩⟩
  have y := putAll_ext nv x1.x (fun i r v a k1 k2 k3 k4 j s w k5 k6 z => by
    obtain ⟨b, k7, k8⟩ := nv.fresh i r v k1 k2 k3
    rw [k4] at k7; cases k7
    exact x1.apart st k8 j s w k5 k6 z) e2
  have z : Ext W (setAll σ is vs) H1 F1 g' (setAll σ is vs) H2 F1 g' := y.st.grow s2 (Same.refl _) (y.st.same.trans s2) (fun _ _ h => .inl h)
  exact q _ H2 F1 (y.trans z)
theorem par_swap2 {i j : Nat} {cs : List CE} {s : Stmt} (h : PS X s (tPar i j (tN W gl cl cs))) : PS X s (tParN [i, j] (tN W gl cl cs)) := by
  refine h.mono' fun D σ H q => tN_imp q fun vs H1 ⟨l, k⟩ => ?_
  match vs, l with
  | [v, w], _ => exact ⟨v, w, rfl, k H1 (Same.refl _) fun _ _ h => .inl h⟩
theorem par_swap3 {i j l : Nat} {cs : List CE} {s : Stmt} (h : PS X s (tPar3 i j l (tN W gl cl cs))) : PS X s (tParN [i, j, l] (tN W gl cl cs)) := by
  refine h.mono' fun D σ H q => tN_imp q fun vs H1 ⟨l, k⟩ => ?_
  match vs, l with
  | [u, v, w], _ => exact ⟨u, v, w, rfl, k H1 (Same.refl _) fun _ _ h => .inl h⟩
/-- the names of a plain store of several -/
def gNames : List Nat → TGs
  | [] => gNil
  | i :: is => gCons (gName i) (gNames is)
theorem gNames_of : ∀ {is : List Nat} {vs : List V} {σ : Sl} {H : Hp} {Q : Sl → Hp → Prop}, vs.length = is.length → Q (setAll σ is vs) H → gNames is vs σ H Q
  | [], [], _, _, _, _, q => ⟨rfl, q⟩
  | i :: is, v :: vs, σ, H, Q, l, q => ⟨v, vs, rfl, gNames_of (by simpa using l) q⟩
  | [], _ :: _, _, _, _, l, _ => by simp at l
  | _ :: _, [], _, _, _, l, _ => by simp at l
theorem par_plain {es tgs : List Expr} {is : List Nat} {cs : List CE} {k k2 : Nat} {p p2 : Pos} (hK : X.K = W.K) (hc : X.calm = true) (hl : is.length ≤ 100) (h : PA X es (tN W gl cl cs)) (hg : PGs X tgs (gNames is))
    (hn : (assignEach tgs X.env).length = is.length) (hst : (assignEach tgs X.env).findIdx? (·.1) = none)
    (hs : swapsWithSole [.Tuple tgs k p] (.Tuple es k2 p2) pos.line X.env = pure false) (hw : swappedStores [.Tuple tgs k p] (.Tuple es k2 p2) X.env = pure none) (h1 : (assignEach [.Tuple tgs k p] X.env).map (·.2) = [assign (.Tuple tgs k p) X.env]) :
    PS X (.Assign [.Tuple tgs k p] (.Tuple es k2 p2) pos) (tParN is (tN W gl cl cs)) := by
  refine (ps_asg (pe_tup h) (pg_tup hc hg hn hst) hs hw h1).mono' fun D σ H q => tN_imp q fun vs H1 ⟨l, k⟩ => ⟨?_, fun a ha => ?_⟩
  · rw [l, sizeLine_eq]; omega
  · refine ⟨a, vs, rfl, .of upd_same, l, gNames_of l (k _ (upd_same_of ha) fun b o e => ?_)⟩
    by_cases hb : b = a
    · subst hb; exact .inr ha
    · rw [upd_ne hb] at e; exact .inl e
end
end PV

/-! PV24: turned round; ranges at once; dict methods -/
namespace PV
open PySem PySem.Spec PyProof.Rows L2
section
variable {prog : Program} {w : World} {A : Around} {E : Value → Shared → Prop} {s : Shared}
theorem places_down (n : Nat) : Builtin.Slice.slicePlaces ((n : Int) - 1) (-1) (-1) = n := by
  unfold Builtin.Slice.slicePlaces
  have h1 : ¬ (-1 : Int) > 0 := by omega
  simp only [h1, if_false, Int.neg_neg, Int.ediv_one]
  split <;> omega
theorem sliceApplied_down {sl : Addr} {vs : Value} {n : Nat} {Q : Int × Int × Nat → Shared → Prop} (hs : s.heap.IsSliceOf sl .none .none vs) (ps : IsPart vs (some (-1)))
    (h : Q ((n : Int) - 1, -1, n) s) : wpAny (model prog w) A (Builtin.Slice.sliceApplied (.ref sl) (pure (n : Int))) Q E s := by
  obtain ⟨os, hos, hcs, hds⟩ := id hs
  unfold Builtin.Slice.sliceApplied Builtin.Slice.sliceFields
  refine wpAny_bind (wpAny_bind (wpAny_field hos hds (x := .none) rfl (wpAny_bind (wpAny_field hos hds (x := .none) rfl (wpAny_bind (wpAny_field hos hds (x := vs) rfl (wpAny_pure ?_)))))))
  refine wpAny_bind (HT.slicePart_ ps ?_)
  show wpAny _ _ (if ((-1 : Int) == 0) = true then _ else _) _ _ s
  rw [if_neg (by decide)]
  refine wpAny_bind (slicePart_none (wpAny_bind (slicePart_none (wpAny_bind (wpAny_pure ?_)))))
  show wpAny _ _ (pure ((n : Int) - 1, (-1 : Int), Builtin.Slice.slicePlaces ((n : Int) - 1) (-1) (-1))) _ _ s
  rw [places_down]
  exact wpAny_pure h
theorem fmap_some {α β : Type} {f : α → Option β} {g : α → β} : ∀ {l : List α}, (∀ x ∈ l, f x = some (g x)) → l.filterMap f = l.map g
  | [], _ => rfl
  | a :: l, h => by
    rw [List.filterMap_cons, h a List.mem_cons_self, List.map_cons]
    exact congrArg _ (fmap_some fun x hx => h x (List.mem_cons_of_mem _ hx))
theorem pick_down (xs : Array Value) : ((List.range xs.size).filterMap fun (m : Nat) => xs[(((xs.size : Int) - 1) + (m : Int) * (-1)).toNat]?).toArray = xs.toList.reverse.toArray := by
  congr 1
  have e : ∀ m ∈ List.range xs.size, (fun (m : Nat) => xs[(((xs.size : Int) - 1) + (m : Int) * (-1)).toNat]?) m = (fun m => some (xs.toList.reverse.getD m .none)) m := fun m hm => by
    have hm : m < xs.size := List.mem_range.mp hm
    have e1 : (((xs.size : Int) - 1) + (m : Int) * (-1)).toNat = xs.size - 1 - m := by omega
    show xs[(((xs.size : Int) - 1) + (m : Int) * (-1)).toNat]? = _
    rw [e1]
    have h1 : xs.size - 1 - m < xs.size := by omega
    rw [Array.getElem?_eq_getElem h1]
    congr 1
    rw [List.getD_eq_getElem?_getD, List.getElem?_reverse (by simpa using hm)]
    simp [h1]
  rw [fmap_some e]
  refine List.ext_getElem? fun i => ?_
  by_cases hi : i < xs.size
  · rw [List.getElem?_map, List.getElem?_range hi]
    have hl : i < xs.toList.reverse.length := by simpa using hi
    rw [List.getElem?_eq_getElem hl]
    simp [List.getD_eq_getElem?_getD, hl]
    rw [List.getElem?_eq_getElem (by simpa using hi)]
    simp
  · rw [List.getElem?_eq_none (by simpa using hi), List.getElem?_eq_none (by simpa using hi)]
theorem getItem_tuple_down {t sl : Addr} {items : Array Value} {vs : Value} {Q : Value → Shared → Prop} (ht : IsTup s.heap t items) (hs : s.heap.IsSliceOf sl .none .none vs) (ps : IsPart vs (some (-1)))
    (h : Q (.ref s.heap.objs.size) { s with heap := s.heap.push { cls := .type "tuple", data := .seq items.toList.reverse.toArray } })
    (hsz : items.size ≤ sizeLine) : wpAny (model prog w) A (getItem (.ref t) (.ref sl)) Q E s := by
  have htake : sizeOk (.seq items.toList.reverse.toArray) := by
    show items.toList.reverse.toArray.size ≤ sizeLine
    rw [List.size_toArray, List.length_reverse, Array.length_toList]
    omega
  obtain ⟨os, hos, hcs, hds⟩ := id hs
  have hTs : s.TypeIs (.ref sl) "slice" := ⟨os, hos, hcs⟩
  unfold getItem
  try with_reducible refine wpAny_holding ?_
  first | refine wpAny_bind (wpAny_pure ?_) | skip
  refine wpAny_bind (wpAny_sequenceKey ht.typeIs (by decide) ?_)
  refine wpAny_bind (wpAny_callSpecial?_slot (name := Str.ofString "__getitem__") ht.typeIs PyProof.Rows.slot_tuple_getitem
    (wpAny_call_entry PyProof.Rows.slot_tuple_getitem ht.typeIs entry_tuple_getitem ?_ (args_tuple_getitem _ _)))
  show wpAny _ _ (Builtin.Tuple.tupleItemsOf (.ref t) >>= _) _ _ s
  refine wpAny_bind (tupleItemsOf_ ht ?_)
  refine wpAny_bind (wpAny_typeOf hTs ?_)
  rw [if_pos (by decide)]
  refine wpAny_bind (sliceApplied_down hs ps ?_)
  have hno : ¬ ((((items.size : Int) - 1) == 0 && (-1 : Int) == 1 && items.size == items.size) = true) := by simp
  show wpAny _ _ (if ((((items.size : Int) - 1) == 0 && (-1 : Int) == 1 && items.size == items.size) = true) then _ else _) _ _ s
  rw [if_neg hno, pick_down]
  first
    | exact wpAny_bind (m := Builtin.Tuple.tupleExact _) (wpAny_newObj_type (wpAny_pure ⟨_, rfl, wpAny_pure h⟩) htake)
    | exact wpAny_bind (m := Builtin.Tuple.tupleExact _) (wpAny_newObj_type (wpAny_bind (wpAny_pure (wpAny_pure ⟨_, rfl, wpAny_pure h⟩))) htake)
    | exact wpAny_bind (wpAny_bind (m := Builtin.Tuple.tupleExact _) (wpAny_newObj_type (wpAny_pure (wpAny_pure ⟨_, rfl, wpAny_pure h⟩)) htake))
    | exact wpAny_bind (wpAny_bind (m := Builtin.Tuple.tupleExact _) (wpAny_newObj_type (wpAny_pure ⟨_, rfl, wpAny_pure h⟩) htake))
end
section
variable {W : Wd} {gl : String → Option T} {cl : Cl} {X : Cx} {pos : Pos}
def tRevT (K : PySem.W.Frag) (te : TE) : TE := fun σ H Q => te σ H fun x H1 => ∃ a xs, x = .ref a ∧ SqT K H1 a xs ∧ ∀ p, H1 p = none → Q (.ref p) (upd H1 p (.tup xs.reverse))
theorem pe_revT {e : Expr} {te : TE} {k : Nat} {p1 p2 p3 pos : Pos} (he : PE X e te) : PE X (.Subscript e (.Slice none none (some (.UnaryOp .USub (.Constant (.int 1) k p1) p2)) p3) pos) (tRevT X.K te) := by
  refine ⟨fun pins s σ H Q I h => ?_⟩
  refine Subscript_ (thn (he.run pins s σ H _ I h) fun v s1 ⟨x, H1, I1, r1, q1⟩ => ?_)
  obtain ⟨a, xs, ex, hx, q⟩ := q1
  subst ex
  cases r1
  have hst : PO X (some (.UnaryOp .USub (.Constant (.int 1) k p1) p2)) (tPart (tUn (rU fun i => .int (-i)) (tC (.int 1)))) := po_some (pe_un un_neg pe_int)
  refine wpAny_Slice (thn (po_none.run pins s1 σ H1 (fun o H2 => o = none ∧ H2 = H1) I1 ⟨rfl, rfl⟩) fun vl s2 ⟨l, H2, I2, pl, el, e2⟩ => ?_)
  subst el e2
  refine thn (po_none.run pins s2 σ H2 (fun o H3 => o = none ∧ H3 = H2) I2 ⟨rfl, rfl⟩) fun vu s3 ⟨u, H3, I3, pu, eu, e3⟩ => ?_
  subst eu e3
  refine thn (hst.run pins s3 σ H3 (fun o H4 => o = some (-1) ∧ H4 = H3) I3 ⟨1, rfl, -1, rfl, rfl, rfl⟩) fun vs s4 ⟨o, H4, I4, ps, eo, e4⟩ => ?_
  subst eo e4
  cases pl
  cases pu
  have I5 : Inv X pins σ H4 { s4 with heap := s4.heap.push { cls := .type "slice", data := .fields #[.none, .none, vs] } } := I4.kept (t' := s4.toks) fun b ob q => Heap.get?_push_of_some _ q
  obtain ⟨its, r, ht, hz⟩ := I5.tuple hx
  have hlen := r.length
  show wpAny (model X.prog X.w) X.A (subscriptTail e (.Slice none none (some (.UnaryOp .USub (.Constant (.int 1) k p1) p2)) p3) (.ref a) (.ref s4.heap.objs.size)) (EP X pins σ Q) X.xe { s4 with heap := s4.heap.push { cls := .type "slice", data := .fields #[.none, .none, vs] } }
  refine tail_any (ops := [.ref a, .ref s4.heap.objs.size]) ht.typeIs (PyProof.Rows.slot_tuple_getitem.lookup) ?_ (by with_unfolding_all rfl)
  refine getItem_tuple_down ht (Heap.IsSliceOf.new _ .none .none vs) ps ?_ (by rw [List.size_toArray]; omega)
  refine ⟨.ref _, _, I5.laid (t' := s4.toks) (o := .tup xs.reverse) (fun b ob q => Heap.get?_push_of_some _ q) (Nat.le_refl _) ?_, rfl, q _ (I5.hok.fresh (Nat.le_refl _))⟩
  exact ⟨by rw [List.length_reverse]; exact hz, _, r.reverse, IsTup.new _ _⟩
end
end PV

/-! PV25: turned round, ranges at once, instances made, dict displays, asked dicts -/
namespace PV
open PySem PySem.Spec PyProof.Rows L2
section
variable {W : Wd} {gl : String → Option T} {cl : Cl} {X : Cx} {pos : Pos}
theorem sd_rev {e : Expr} {c : CE} {k : Nat} {p1 p2 p3 : Pos} (hK : X.K = W.K) (h : Sd W gl cl X e c) : Sd W gl cl X (.Subscript e (.Slice none none (some (.UnaryOp .USub (.Constant (.int 1) k p1) p2)) p3) pos) (.rev c) := by
  refine .of rfl (((pe_revL h.pe).or' (pe_revT h.pe)).mono' ?_)
  rintro σ H Q ⟨F, g, r, g', st, ev, q⟩
  simp only [evX] at ev
  obtain ⟨x, g1, e1, f1⟩ := bind_some ev
  obtain ⟨e3, rfl⟩ := lift_some f1
  unfold tRevL tRevT
  rw [hK]
  cases hx : x.2 with
  | lst xs =>
    rw [hx] at e3
    simp only [rev2] at e3
    split at e3
    · cases e3
      refine .inl ⟨F, g, x, _, st, e1, fun v H1 F1 x1 r1 => ?_⟩
      have c := r1.cur
      rw [hx] at c
      obtain ⟨a, vs, rfl, h1, h2⟩ := c.lst_inv x1.st.same
      refine ⟨a, vs, rfl, .of h1, fun p hp => ?_⟩
      have o : Out W H1 F1 (true, T.lst xs.reverse) _ _ _ := .newOwn x1.st.same hp (.lst h2.reverse)
      exact q _ _ _ (x1.trans (o.exE x1.st)) (o.valX x1.x.dom rfl)
    · cases e3
  | tup xs =>
    rw [hx] at e3
    simp only [rev2] at e3
    split at e3
    · cases e3
      refine .inr ⟨F, g, x, _, st, e1, fun v H1 F1 x1 r1 => ?_⟩
      have c := r1.cur
      rw [hx] at c
      obtain ⟨a, vs, rfl, h1, h2⟩ := c.tup_inv x1.st.same
      refine ⟨a, vs, rfl, .of h1, fun p hp => ?_⟩
      have o : Out W H1 F1 (false, T.tup xs.reverse) _ _ _ := .newTup x1.st.same hp h2.reverse
      exact q _ _ _ (x1.trans (o.exE x1.st)) (o.valX x1.x.dom rfl)
    · cases e3
  | _ => rw [hx] at e3; cases e3
theorem rg_reps {F : Hp} {a b : Int} : Reps W F (rgV a b) ((List.range (b - a).toNat).map fun k => T.int (a + (k : Nat))) := by
  unfold rgV
  generalize (List.range (b - a).toNat) = l
  induction l with
  | nil => exact .nil
  | cons x l ih => exact .cons (.int _) ih
def isL : Blt → Bool
  | .list => true
  | _ => false
theorem conv_fin {f : Blt} {xs : List T} {r : Bool × T} {σ : Sl} {H H1 F F1 : Hp} {g g1 : G} {c : CE} {vs : List V} {Q : VK} (hf : f = .list ∨ f = .tuple) (hc : c.isVar = false) (e : conv2 f xs = some r) (hv : Reps W F1 vs xs) (x1 : ExE W σ H F g H1 F1 g1) (q : ∀ v H' F', ExE W σ H F g H' F' g1 → Val W c H H' F' r v → Q v H') :
    ∀ p, H1 p = none → Q (.ref p) (upd H1 p (if isL f then .lst vs else .tup vs)) := by
  intro p hp
  rcases hf with rfl | rfl
  · simp only [conv2] at e
    split at e
    · cases e
      have o : Out W H1 F1 (true, T.lst xs) _ _ _ := .newOwn x1.st.same hp (.lst hv)
      exact q _ _ _ (x1.trans (o.exE x1.st)) (o.valX x1.x.dom hc)
    · cases e
  · simp only [conv2] at e
    split at e
    · cases e
      have o : Out W H1 F1 (false, T.tup xs) _ _ _ := .newTup x1.st.same hp hv
      exact q _ _ _ (x1.trans (o.exE x1.st)) (o.valX x1.x.dom hc)
    · cases e
theorem rgok {a b : Int} (ha : mid a = true) (hb : mid b = true) (h : b - a ≤ 16000000) : RgOk a b := by
  have := mid_iff.mp ha
  have := mid_iff.mp hb
  refine ⟨by omega, by omega, by omega, by omega, by omega⟩
theorem sd_conv1 {a : Expr} {f : Blt} {p p2 pos2 : Pos} {c : CE} (hf : f = .list ∨ f = .tuple) (hc : X.calm = true) (hg : Gl X "range") (hm : X.mg "range" = none) (hgf : Gl X (Str.ofString f.nm)) (hmf : X.mg (Str.ofString f.nm) = none) (ns : notStar a = true) (h : Sd W gl cl X a c) :
    Sd W gl cl X (.Call (.Name (Str.ofString f.nm) p2) [.Call (.Name "range" p) [a] [] pos2] [] pos) (.conv f (.rng [c])) := by
  have key : ∀ σ H Q, tX W gl cl (.conv f (.rng [c])) σ H Q → tRg1 (tK W gl cl c) σ H fun a b H1 => RgOk a b ∧ ∀ q, H1 q = none → Q (.ref q) (upd H1 q (if isL f then .lst (rgV a b) else .tup (rgV a b))) := by
    rintro σ H Q ⟨F, g, r, g', st, ev, q⟩
    simp only [evX, evIt] at ev
    obtain ⟨src, g1, e1, f1⟩ := bind_some ev
    obtain ⟨e3, rfl⟩ := lift_some f1
    obtain ⟨ts, g2, e4, f4⟩ := bind_some e1
    obtain ⟨xs, g3, e5, f5⟩ := bind_some f4
    obtain ⟨e6, rfl⟩ := lift_some e5
    cases pure_some f5
    simp only [evKept] at e4
    obtain ⟨t, g4, e7, f7⟩ := bind_some e4
    obtain ⟨_, g5, e8, f8⟩ := bind_some f7
    cases pure_some e8
    cases pure_some f8
    refine ⟨F, g, t, _, st, e7, fun v H1 F1 x1 r1 => ?_⟩
    cases t <;> simp [rngOf, le7] at e6
    obtain ⟨⟨hm1, hn⟩, rfl⟩ := e6
    rename_i n
    cases r1
    refine ⟨n, rfl, rgok (by decide) hm1 (by omega), ?_⟩
    have w := rg_reps (W := W) (F := F1) (a := 0) (b := n)
    simp only [Int.zero_add, Int.sub_zero] at w
    exact conv_fin hf rfl e3 w x1 q
  rcases hf with rfl | rfl
  · exact .of rfl ((pe_listRg hc hgf hmf (prg_1 hg hm h.kept (star_no ns)) (by rfl)).mono' key)
  · exact .of rfl ((pe_tupRg hc hgf hmf (prg_1 hg hm h.kept (star_no ns)) (by rfl)).mono' key)
theorem sd_conv2 {a b : Expr} {f : Blt} {p p2 pos2 : Pos} {c d : CE} (hf : f = .list ∨ f = .tuple) (hc : X.calm = true) (hg : Gl X "range") (hm : X.mg "range" = none) (hgf : Gl X (Str.ofString f.nm)) (hmf : X.mg (Str.ofString f.nm) = none) (ns : notStar a = true) (ns2 : notStar b = true) (h : Sd W gl cl X a c) (h2 : Sd W gl cl X b d) (hpl : (backTo pos2 (starEach [b] X.env)).any (·.1) = false) :
    Sd W gl cl X (.Call (.Name (Str.ofString f.nm) p2) [.Call (.Name "range" p) [a, b] [] pos2] [] pos) (.conv f (.rng [c, d])) := by
  have key : ∀ σ H Q, tX W gl cl (.conv f (.rng [c, d])) σ H Q → tRg2 (tK W gl cl c) (tK W gl cl d) σ H fun a b H1 => RgOk a b ∧ ∀ q, H1 q = none → Q (.ref q) (upd H1 q (if isL f then .lst (rgV a b) else .tup (rgV a b))) := by
    rintro σ H Q ⟨F, g, r, g', st, ev, q⟩
    simp only [evX, evIt] at ev
    obtain ⟨src, g1, e1, f1⟩ := bind_some ev
    obtain ⟨e3, rfl⟩ := lift_some f1
    obtain ⟨ts, g2, e4, f4⟩ := bind_some e1
    obtain ⟨xs, g3, e5, f5⟩ := bind_some f4
    obtain ⟨e6, rfl⟩ := lift_some e5
    cases pure_some f5
    simp only [evKept] at e4
    obtain ⟨t, g4, e7, f7⟩ := bind_some e4
    obtain ⟨_, g5, e8, f8⟩ := bind_some f7
    cases pure_some f8
    obtain ⟨u, g6, e9, f9⟩ := bind_some e8
    obtain ⟨_, g7, e10, f10⟩ := bind_some f9
    cases pure_some e10
    cases pure_some f10
    refine ⟨F, g, t, _, st, e7, fun v H1 F1 x1 r1 => ⟨F1, _, u, _, x1.st, e9, fun w H2 F2 x2 r2 => ?_⟩⟩
    cases t <;> cases u <;> simp [rngOf, le7] at e6
    obtain ⟨⟨⟨hm1, hm2⟩, hn⟩, rfl⟩ := e6
    rename_i n m
    cases r1
    cases r2
    exact ⟨n, m, rfl, rfl, rgok hm1 hm2 hn, conv_fin hf rfl e3 rg_reps (x1.trans x2) q⟩
  rcases hf with rfl | rfl
  · exact .of rfl ((pe_listRg hc hgf hmf (prg_2 hg hm h.kept h2.kept (star_no ns) (star_no ns2) hpl) (by rfl)).mono' key)
  · exact .of rfl ((pe_tupRg hc hgf hmf (prg_2 hg hm h.kept h2.kept (star_no ns) (star_no ns2) hpl) (by rfl)).mono' key)
theorem lentV_no : ∀ (as : List CE) (vs : List V), lentV (as.map fun _ => false) vs = []
  | [], _ => rfl
  | _ :: as, [] => rfl
  | _ :: as, _ :: vs => lentV_no as vs
theorem Reps.args {H F : Hp} {vs : List V} {ts : List T} (h : Reps W F vs ts) : ∀ {as : List CE}, as.length = ts.length → PV.Args W H F (as.map fun _ => false) vs ts := by
  induction ts generalizing vs with
  | nil => intro as e; cases h; cases as; exact .nil; cases e
  | cons t ts ih =>
    intro as e
    cases h with
    | cons a b =>
      cases as with
      | nil => cases e
      | cons c as => exact .val a (ih b (by simpa using e))
theorem evKept_len : ∀ {as : List CE} {g g' : G} {ts : List T}, evKept gl cl as g = some (ts, g') → ts.length = as.length
  | [], g, g', ts, h => by
    simp only [evKept] at h
    cases pure_some h; rfl
  | a :: as, g, g', ts, h => by
    simp only [evKept] at h
    obtain ⟨x, g1, e1, f1⟩ := bind_some h
    obtain ⟨xs, g2, e2, f2⟩ := bind_some f1
    cases pure_some f2
    simp [evKept_len e2]
theorem sd_make {ex : Expr} {es : List Expr} {c : String} {C : Addr} {as : List CE} (hC : W.cA c = some C) (hx : ∀ {t : TA}, PA X es t → PE X ex (tMake C (spF W cl (c ++ ".__init__") (true :: as.map fun _ => false)) [] E0 t)) (h : PA X es (GoA W (RL W) (evKept gl cl as))) : Sd W gl cl X ex (.make c as) := by
  refine .of rfl ((hx h).mono' ?_)
  rintro σ H Q ⟨F, g, r, g', st, ev, q⟩
  simp only [evX] at ev
  obtain ⟨ts, g1, e1, f1⟩ := bind_some ev
  obtain ⟨a, g2, e2, f2⟩ := bind_some f1
  obtain ⟨e3, rfl⟩ := lift_some e2
  have key : ∃ t, a.t = .non ∧ a.outs = [t] ∧ (r, g') = ((false, t), g2) := by
    revert f2
    generalize a.t = u
    generalize a.outs = w
    intro f2
    cases u with
    | non =>
      cases w with
      | nil => cases f2
      | cons t w =>
        cases w with
        | nil => exact ⟨t, rfl, rfl, pure_some f2⟩
        | cons _ _ => cases f2
    | _ => cases f2
  obtain ⟨t, ht, ho, e9⟩ := key
  cases e9
  · refine ⟨F, g, ts, _, st, e1, fun vs H1 F1 x1 r1 x dx hx hdx hne => ?_⟩
    have fx := x1.st.same.free hx
    have fdx := x1.st.same.free hdx
    have gr : Same H1 (upd (upd H1 dx (.own x)) x (.ins C dx [])) := fun b o e => by
      rw [upd_ne (ne_of_none e hx), upd_ne (ne_of_none e hdx)]; exact e
    rw [List.append_nil]
    have lv : lentV (true :: as.map fun _ => false) (V.ref x :: vs) = [V.ref x] := by
      show V.ref x :: lentV (as.map fun _ => false) vs = _
      rw [lentV_no]
    have la := evKept_len e1
    refine ⟨by rw [List.length_cons, List.length_cons, List.length_map, r1.length, la], F1, .ins c [] :: ts, a, .lent ⟨x, _, rfl, fx, upd_same, .ins hC .nil⟩ (r1.args la.symm), by rw [lv]; simp, x1.st.same.trans gr, e3, fun v H' F' cp => ?_⟩
    have ov : a.own = false ∨ a.own = true := by cases a.own <;> simp
    have vn : v = .non := by
      have k := cp.val
      rw [ht] at k
      rcases ov with ov | ov
      · rw [ov, if_neg (by simp)] at k; cases k; rfl
      · rw [ov, if_pos rfl] at k
        obtain ⟨b, o, _, _, _, _, z⟩ := k
        cases z
    have po := cp.outs
    rw [lv, ho] at po
    cases po with
    | cons lx _ =>
      obtain ⟨b, o, eb, h1, h2, h3⟩ := lx
      cases eb
      refine ⟨vn, ?_⟩
      have s1 : Same F' (upd F' x o) := upd_same_of h1
      have y : ExE W σ H1 F1 _ H' (upd F' x o) _ := ⟨x1.st.grow (fun b u e => cp.keep b u (gr b u e) (by rw [lv]; intro z; rcases List.mem_singleton.mp z with z; cases z; rw [hx] at e; cases e)) (cp.ff.trans s1) (fun b u e => by
          by_cases hb : b = x
          · subst hb; rw [upd_same] at e; cases e; exact h2
          · rw [upd_ne hb] at e; exact cp.fh b u e) (fun b u e => by
          by_cases hb : b = x
          · subst hb; exact .inr hx
          · rw [upd_ne hb] at e
            rcases cp.new b u e with k | k
            · exact .inl k
            · refine .inr ?_
              cases z : H1 b with
              | none => rfl
              | some w => rw [gr b w z] at k; cases k), fun _ t h => ⟨t, h⟩⟩
      exact q _ H' _ (x1.trans y) (Val.rep rfl ((h3.mono s1).rep upd_same))
end
end PV

/-! PV26: dict displays, asked dicts -/
namespace PV
open PySem PySem.Spec PyProof.Rows L2
section
variable {W : Wd} {gl : String → Option T} {cl : Cl} {X : Cx} {pos : Pos}
def trs (W : Wd) (gl : String → Option T) (cl : Cl) : List CE → List (TE × TE)
  | k :: v :: r => (tK W gl cl k, tK W gl cl v) :: trs W gl cl r
  | _ => []
inductive RepP (W : Wd) (F : Hp) : List (V × V) → List (T × T) → Prop
  | nil : RepP W F [] []
  | cons {k v : V} {x t : T} {ps : List (V × V)} {qs : List (T × T)} : Rep W F k x → x.keyOk false = true → Rep W F v t → RepP W F ps qs → RepP W F ((k, v) :: ps) ((x, t) :: qs)
theorem pairs_ok : ∀ (es : List CE) {acc kvs : List (T × T)} {σ : Sl} {H F : Hp} {g g' : G} {Q : List (V × V) → Hp → Prop}, Sta W σ H F g → evKV gl cl es acc g = some (kvs, g') →
    (∀ ps qs H' F', ExE W σ H F g H' F' g' → RepP W F' ps qs → kvs = qs.foldl (fun a q => dput a q.1 q.2) acc → 2 * qs.length = es.length → Q ps H') → tPairs (trs W gl cl es) σ H Q
  | [], acc, kvs, σ, H, F, g, g', Q, st, ev, q => by
    simp only [evKV] at ev
    cases pure_some ev
    exact q [] [] H F (.refl st) .nil rfl rfl
  | [_], acc, kvs, σ, H, F, g, g', Q, st, ev, q => by
    simp only [evKV] at ev
    cases ev
  | k :: v :: r, acc, kvs, σ, H, F, g, g', Q, st, ev, q => by
    simp only [evKV] at ev
    obtain ⟨a, g1, e1, f1⟩ := bind_some ev
    obtain ⟨_, g2, e2, f2⟩ := bind_some f1
    obtain ⟨ok, rfl⟩ := ask_some e2
    obtain ⟨b, g3, e3, f3⟩ := bind_some f2
    refine ⟨F, g, a, _, st, e1, fun kv H1 F1 x1 r1 => ⟨F1, _, b, g3, x1.st, e3, fun vv H2 F2 x2 r2 => ?_⟩⟩
    refine pairs_ok r x2.st f3 fun ps qs H3 F3 x3 rp e l => ?_
    exact q _ ((a, b) :: qs) H3 F3 ((x1.trans x2).trans x3) (.cons (r1.mono (x2.x.mono.trans x3.x.mono)) ok (r2.mono x3.x.mono) rp) e (by simp; omega)
theorem pps_of : ∀ {keys : List (Option Expr)} {vals : List Expr} {es : List CE}, PPs X pos keys vals (trs W gl cl es) → PPs X pos keys vals (trs W gl cl es) := fun h => h
theorem pps_nil' : PPs X pos [] [] (trs W gl cl []) := pps_nil
theorem pps_cons' {k v : Expr} {ks : List (Option Expr)} {vs : List Expr} {ck cv : CE} {cs : List CE} (hk : Sd W gl cl X k ck) (hv : Sd W gl cl X v cv) (hr : PPs X pos ks vs (trs W gl cl cs)) : PPs X pos (some k :: ks) (v :: vs) (trs W gl cl (ck :: cv :: cs)) := pps_cons hk.kept hv.kept hr
theorem RepP.keys {F : Hp} {ps : List (V × V)} {qs : List (T × T)} (h : RepP W F ps qs) : ∃ kvs : List (Key × V), ps = kvs.map (fun kv => (kV kv.1, kv.2)) ∧ kvs.length = qs.length ∧ ∀ (ws : List (Key × V)) (acc : List (T × T)), RepD W F ws acc → RepD W F (mergeK ws kvs) (qs.foldl (fun a q => dput a q.1 q.2) acc) := by
  induction h with
  | nil => exact ⟨[], rfl, rfl, fun ws acc h => h⟩
  | cons a ok b _ ih =>
    obtain ⟨kvs, e1, e2, e3⟩ := ih
    obtain ⟨k', kt, rfl⟩ := a.key ok
    refine ⟨(k', _) :: kvs, by rw [e1]; rfl, by simp [e2], fun ws acc h => ?_⟩
    exact e3 _ _ (h.put kt b)
theorem sd_dct {keys : List (Option Expr)} {vals : List Expr} {cs : List CE} (hall : keys.all (·.isSome) = true) (hl : keys.length = vals.length) (h0 : keys ≠ []) (h15 : keys.length ≤ 15) (hcs : cs.length ≤ 30) (h : PPs X pos keys vals (trs W gl cl cs)) : Sd W gl cl X (.Dict keys vals pos) (.dct cs) := by
  refine .of rfl ((pe_disp h hall hl h0 h15).mono' ?_)
  rintro σ H Q ⟨F, g, r, g', st, ev, q⟩
  simp only [evX] at ev
  obtain ⟨kvs, g1, e1, f1⟩ := bind_some ev
  cases pure_some f1
  intro D hD
  have stD : Sta W σ (rmv (upd H D (.dK [])) D) F g := by rw [rmv_upd hD]; exact st
  refine pairs_ok cs stD.unrmv e1 fun ps qs H1 F1 x1 rp e l => ?_
  obtain ⟨xr, hD1⟩ := Ext.rmv stD upd_same x1.x
  rw [rmv_upd hD] at xr
  obtain ⟨ws, rfl, e2, e3⟩ := rp.keys
  refine ⟨hD1, ws, rfl, by rw [e2]; omega, ?_⟩
  have rd := e3 [] [] .nil
  rw [← e] at rd
  have y1 : ExE W σ H F g (rmv H1 D) F1 g' := ⟨xr, x1.shr⟩
  have sm : Same (rmv H1 D) (upd H1 D (.dK (mergeK [] ws))) := fun b o h => by
    obtain ⟨n, h⟩ := rmv_some h
    rw [upd_ne n]; exact h
  have y2 : ExE W σ (rmv H1 D) F1 g' (upd H1 D (.dK (mergeK [] ws))) F1 g' := ⟨y1.st.grow sm (Same.refl _) (y1.st.same.trans sm) (fun _ _ h => .inl h), Shr.refl _⟩
  refine q _ _ F1 (y1.trans y2) ?_
  unfold Val
  rw [if_pos rfl]
  exact ⟨D, _, rfl, hD, upd_same, y1.st.rmvF, .dK rd⟩
theorem isD_cur {F H : Hp} {v : V} {tk : Bool} {kvs : List (T × T)} (sm : Same F H) (h : Cur W H F v (.dct tk kvs)) : ∃ a, v = .ref a ∧ IsD H a := by
  cases tk with
  | false => obtain ⟨a, ws, rfl, h1, h2⟩ := h.dK_inv sm; exact ⟨a, rfl, .inl ⟨ws, .inl h1⟩⟩
  | true => obtain ⟨a, ws, rfl, h1, h2⟩ := h.dT_inv sm; exact ⟨a, rfl, .inr ⟨ws, .inl h1⟩⟩
theorem sd_get1 {o e : Expr} {oc ec : CE} {apos cpos : Pos} (hu : X.A.units + 1 < cLine) (m : M1 X o "get" apos e cpos) (ho : Sd W gl cl X o oc) (h : Sd W gl cl X e ec) : Sd W gl cl X (.Call (.Attribute o "get" apos) [e] [] cpos) (.mth .get oc [ec]) := by
  refine .of rfl ((pe_dget1 hu ho.pre h.kept m).mono' ?_)
  rintro σ H Q ⟨F, g, r, g', st, ev, q⟩
  simp only [evX] at ev
  obtain ⟨x0, g1, e1, f1⟩ := bind_some ev
  obtain ⟨_, g2, e2, f2⟩ := bind_some f1
  obtain ⟨on, rfl⟩ := ask_some e2
  obtain ⟨ts, g3, e3, f3⟩ := bind_some f2
  obtain ⟨x, g4, e4, f4⟩ := bind_some f3
  obtain ⟨t, g5, e5, f5⟩ := bind_some f4
  obtain ⟨e6, rfl⟩ := lift_some e5
  cases pure_some f5
  simp only [evKept] at e3
  obtain ⟨k, g6, e7, f7⟩ := bind_some e3
  obtain ⟨_, g7, e8, f8⟩ := bind_some f7
  cases pure_some e8
  cases pure_some f8
  refine ⟨F, g, x0, _, st, e1, fun v H1 F1 x1 r1 => ?_⟩
  have isd : ∃ a, v = .ref a ∧ IsD H1 a := by
    cases x0 <;> simp [Pm.on] at on
    exact isD_cur x1.st.same r1.2
  obtain ⟨a, rfl, isd⟩ := isd
  refine ⟨a, rfl, isd, F1, _, k, _, x1.st, e7, fun kv H2 F2 x2 r2 => ?_⟩
  obtain ⟨rfl, c⟩ := post_cur r1.1 x2.x e4
  cases x <;> simp only [mth2] at e6 <;> try (cases e6)
  rename_i tk kvs
  split at e6
  · rename_i ok
    cases e6
    obtain ⟨b, ov, eb, dg, _, hg⟩ := dget_ok x2.st.same c r2 ok
    cases eb
    refine ⟨ov, dg, q _ H2 F2 (x1.trans x2) (Val.rep rfl ?_)⟩
    cases z : dget kvs k with
    | some t => rw [z] at hg; obtain ⟨w, rfl, hw⟩ := hg; exact hw
    | none => rw [z] at hg; subst hg; exact .non
  · cases e6
theorem sd_get2 {o e f : Expr} {oc ec fc : CE} {apos cpos : Pos} (hu : X.A.units + 1 < cLine) (m : M2 X o "get" apos e f cpos) (ho : Sd W gl cl X o oc) (h : Sd W gl cl X e ec) (hf : Sd W gl cl X f fc) : Sd W gl cl X (.Call (.Attribute o "get" apos) [e, f] [] cpos) (.mth .get2 oc [ec, fc]) := by
  refine .of rfl ((pe_dget2 hu ho.pre h.kept hf.kept m).mono' ?_)
  rintro σ H Q ⟨F, g, r, g', st, ev, q⟩
  simp only [evX] at ev
  obtain ⟨x0, g1, e1, f1⟩ := bind_some ev
  obtain ⟨_, g2, e2, f2⟩ := bind_some f1
  obtain ⟨on, rfl⟩ := ask_some e2
  obtain ⟨ts, g3, e3, f3⟩ := bind_some f2
  obtain ⟨x, g4, e4, f4⟩ := bind_some f3
  obtain ⟨t, g5, e5, f5⟩ := bind_some f4
  obtain ⟨e6, rfl⟩ := lift_some e5
  cases pure_some f5
  simp only [evKept] at e3
  obtain ⟨k, g6, e7, f7⟩ := bind_some e3
  obtain ⟨_, g7, e8, f8⟩ := bind_some f7
  cases pure_some f8
  obtain ⟨d, g8, e9, f9⟩ := bind_some e8
  obtain ⟨_, g9, e10, f10⟩ := bind_some f9
  cases pure_some e10
  cases pure_some f10
  refine ⟨F, g, x0, _, st, e1, fun v H1 F1 x1 r1 => ?_⟩
  have isd : ∃ a, v = .ref a ∧ IsD H1 a := by
    cases x0 <;> simp [Pm.on] at on
    exact isD_cur x1.st.same r1.2
  obtain ⟨a, rfl, isd⟩ := isd
  refine ⟨a, rfl, isd, F1, _, k, _, x1.st, e7, fun kv H2 F2 x2 r2 => ⟨F2, _, d, _, x2.st, e9, fun dv H3 F3 x3 r3 => ?_⟩⟩
  obtain ⟨rfl, c⟩ := post_cur r1.1 (x2.trans x3).x e4
  cases x <;> simp only [mth2] at e6 <;> try (cases e6)
  rename_i tk kvs
  split at e6
  · rename_i ok
    cases e6
    obtain ⟨b, ov, eb, dg, _, hg⟩ := dget_ok x3.st.same c (r2.mono x3.x.mono) ok
    cases eb
    refine ⟨ov, dg, q _ H3 F3 ((x1.trans x2).trans x3) (Val.rep rfl ?_)⟩
    cases z : dget kvs k with
    | some t => rw [z] at hg; obtain ⟨w, rfl, hw⟩ := hg; exact hw
    | none => rw [z] at hg; subst hg; exact r3
  · cases e6
end
end PV

/-! PV27: a def and its core form -/
namespace PV
open PySem PySem.Spec PyProof.Rows L2
theorem lentV_mem : ∀ {bs : List Bool} {vs : List V} {i : Nat} {v : V}, bs[i]? = some true → vs[i]? = some v → v ∈ lentV bs vs
  | b :: bs, w :: vs, 0, v, h1, h2 => by
    simp at h1 h2; subst h1 h2
    exact List.mem_cons_self
  | true :: bs, w :: vs, i + 1, v, h1, h2 => List.mem_cons_of_mem _ (lentV_mem (by simpa using h1) (by simpa using h2))
  | false :: bs, w :: vs, i + 1, v, h1, h2 => lentV_mem (bs := bs) (vs := vs) (by simpa using h1) (by simpa using h2)
  | [], _, _, _, h1, _ => by simp at h1
  | _ :: _, [], _, _, _, h2 => by simp at h2
theorem lentV_inj : ∀ {bs : List Bool} {vs : List V} {i j : Nat} {v : V}, (lentV bs vs).Nodup → bs[i]? = some true → bs[j]? = some true → vs[i]? = some v → vs[j]? = some v → i = j
  | b :: bs, w :: vs, 0, 0, v, _, _, _, _, _ => rfl
  | b :: bs, w :: vs, 0, j + 1, v, nd, h1, h2, h3, h4 => by
    simp at h1 h3; subst h1 h3
    exact absurd (lentV_mem (bs := bs) (vs := vs) (by simpa using h2) (by simpa using h4)) (List.nodup_cons.mp nd).1
  | b :: bs, w :: vs, i + 1, 0, v, nd, h1, h2, h3, h4 => by
    simp at h2 h4; subst h2 h4
    exact absurd (lentV_mem (bs := bs) (vs := vs) (by simpa using h1) (by simpa using h3)) (List.nodup_cons.mp nd).1
  | true :: bs, w :: vs, i + 1, j + 1, v, nd, h1, h2, h3, h4 => congrArg Nat.succ (lentV_inj (bs := bs) (vs := vs) (List.nodup_cons.mp nd).2 (by simpa using h1) (by simpa using h2) (by simpa using h3) (by simpa using h4))
  | false :: bs, w :: vs, i + 1, j + 1, v, nd, h1, h2, h3, h4 => congrArg Nat.succ (lentV_inj (bs := bs) (vs := vs) nd (by simpa using h1) (by simpa using h2) (by simpa using h3) (by simpa using h4))
  | [], _, _, _, _, _, h1, _, _, _ => by simp at h1
  | _ :: _, [], _, _, _, _, _, _, h3, _ => by simp at h3
section
variable {W : Wd} {gl : String → Option T} {cl : Cl}
theorem args_at {H F : Hp} {bs : List Bool} {vs : List V} {ts : List T} (h : Args W H F bs vs ts) : ∀ {i : Nat} {s : Slot}, (slots0 bs ts)[i]? = some s → ∃ v t, vs[i]? = some v ∧ ((s = .bo t ∧ bs[i]? = some true ∧ Lent W H F v t) ∨ (s = .sh t ∧ bs[i]? = some false ∧ Rep W F v t)) := by
  induction h with
  | nil => intro i s e; simp [slots0] at e
  | @lent bs v vs t ts a _ ih =>
    intro i s e
    cases i with
    | zero => simp [slots0] at e; subst e; exact ⟨v, t, rfl, .inl ⟨rfl, rfl, a⟩⟩
    | succ i =>
      obtain ⟨v', t', h1, h2⟩ := ih (i := i) (s := s) (by simpa [slots0] using e)
      exact ⟨v', t', by simpa using h1, by simpa using h2⟩
  | @val bs v vs t ts a _ ih =>
    intro i s e
    cases i with
    | zero => simp [slots0] at e; subst e; exact ⟨v, t, rfl, .inr ⟨rfl, rfl, a⟩⟩
    | succ i =>
      obtain ⟨v', t', h1, h2⟩ := ih (i := i) (s := s) (by simpa [slots0] using e)
      exact ⟨v', t', by simpa using h1, by simpa using h2⟩
theorem slots0_len {H F : Hp} {bs : List Bool} {vs : List V} {ts : List T} (h : Args W H F bs vs ts) : (slots0 bs ts).length = vs.length := by
  induction h with
  | nil => rfl
  | lent _ _ ih => simp [slots0, ih]
  | val _ _ ih => simp [slots0, ih]
theorem slots0_bo {H F : Hp} {bs : List Bool} {vs : List V} {ts : List T} (h : Args W H F bs vs ts) : ∀ {i : Nat}, bs[i]? = some true → ∃ t, (slots0 bs ts)[i]? = some (.bo t) := by
  induction h with
  | nil => intro i e; simp at e
  | @lent bs v vs t ts a _ ih =>
    intro i e
    cases i with
    | zero => exact ⟨t, rfl⟩
    | succ i => obtain ⟨t', h⟩ := ih (i := i) (by simpa using e); exact ⟨t', by simpa [slots0] using h⟩
  | @val bs v vs t ts a _ ih =>
    intro i e
    cases i with
    | zero => simp at e
    | succ i => obtain ⟨t', h⟩ := ih (i := i) (by simpa using e); exact ⟨t', by simpa [slots0] using h⟩
theorem outs_ok {H F : Hp} : ∀ {bs : List Bool} {vs : List V} {g : G} {ls : List T}, vs.length = bs.length → (∀ (i : Nat) (t : T) (v : V), g[i]? = some (.bo t) → bs[i]? = some true → vs[i]? = some v → Lent W H F v t) → outs bs g = some ls → Paired (Lent W H F) (lentV bs vs) ls
  | [], vs, g, ls, hl, h, e => by
    simp only [outs] at e; cases e
    cases vs with
    | nil => exact .nil
    | cons _ _ => simp at hl
  | true :: bs, [], g, ls, hl, h, e => by simp at hl
  | false :: bs, [], g, ls, hl, h, e => by simp at hl
  | true :: bs, v :: vs, [], ls, hl, h, e => by simp [outs] at e
  | false :: bs, v :: vs, [], ls, hl, h, e => by simp [outs] at e
  | true :: bs, v :: vs, s :: g, ls, hl, h, e => by
    cases s <;> simp only [outs] at e <;> try (cases e)
    rename_i t
    cases q : outs bs g with
    | none => rw [q] at e; cases e
    | some r =>
      rw [q] at e
      cases e
      exact .cons (h 0 t v rfl rfl rfl) (outs_ok (by simpa using hl) (fun i t' v' a b c => h (i + 1) t' v' (by simpa using a) (by simpa using b) (by simpa using c)) q)
  | false :: bs, v :: vs, s :: g, ls, hl, h, e => by
    simp only [outs] at e
    exact outs_ok (bs := bs) (vs := vs) (g := g) (by simpa using hl) (fun i t' v' a b c => h (i + 1) t' v' (by simpa using a) (by simpa using b) (by simpa using c)) e
theorem start_at {N : List Str} {vs : List V} {i : Nat} {v : V} (h : vs[i]? = some v) : (L2.start N vs)[i]? = some (some v) := by
  have hi := (List.getElem?_eq_some_iff.mp h).1
  unfold L2.start
  rw [List.getElem?_append_left (by simpa using hi), List.getElem?_map, h]
  rfl
/-- what a def's core form does is what the evaluator promises -/
theorem fin_of {tb : String → Option Fd} {k : Nat} {f : String} {bs : List Bool} {d : Fd} {N : List Str} {vs : List V} {H : Hp} {Q : VK} {E : XK} (h : spF W (evF gl tb (k + 1)) f bs vs H Q E) (hd : tb f = some d) (hb : d.bor = bs) (hN : N.length = d.n) :
    tSs W gl (evF gl tb k) d.body { nx := fun _ H' => Q .non H', rt := Q } (L2.start N vs) H := by
  obtain ⟨hl, F, ts, r, ha, nd, sm, e, post⟩ := h
  simp only [evF, hd, evB] at e
  split at e
  · rename_i hc
    obtain ⟨hc1, hc2⟩ := hc
    rw [hb] at hc1 hc2
    generalize hg : slots0 d.bor ts ++ List.replicate (d.n - d.bor.length) Slot.no = g at e
    rw [hb] at hg
    have sl := slots0_len ha
    have at0 : ∀ {i : Nat} {s : Slot}, g[i]? = some s → s = .no ∨ (slots0 bs ts)[i]? = some s := fun {i s} e => by
      rw [← hg] at e
      by_cases hi : i < (slots0 bs ts).length
      · rw [List.getElem?_append_left hi] at e; exact .inr e
      · rw [List.getElem?_append_right (by omega)] at e
        exact .inl (List.eq_of_mem_replicate (List.mem_of_getElem? e))
    have mi : ∀ {i : Nat} {s : Slot} {t : T}, g[i]? = some s → s.mineT = some t → ∃ v, s = .bo t ∧ vs[i]? = some v ∧ bs[i]? = some true ∧ Lent W H F v t ∧ (L2.start N vs)[i]? = some (some v) := fun {i s t} e m => by
      rcases at0 e with rfl | e
      · cases m
      · obtain ⟨v, u, h1, h2⟩ := args_at ha e
        rcases h2 with ⟨rfl, h3, h4⟩ | ⟨rfl, _, _⟩
        · cases m; exact ⟨v, rfl, h1, h3, h4, start_at h1⟩
        · cases m
    have st : Sta W (L2.start N vs) H F g := by
      refine ⟨sm, fun i s e => ?_, fun i j a s s' t t' e1 e2 m1 m2 z1 z2 => ?_, ?_⟩
      · rcases at0 e with rfl | e
        · trivial
        · obtain ⟨v, t, h1, h2⟩ := args_at ha e
          rcases h2 with ⟨rfl, h3, a, o, rfl, h5, h6, h7⟩ | ⟨rfl, _, h4⟩
          · exact .of_mine (t := t) rfl (start_at h1) h5 h6 h7
          · exact ⟨v, start_at h1, h4⟩
      · obtain ⟨v, _, k1, k2, _, k3⟩ := mi e1 m1
        obtain ⟨w, _, l1, l2, _, l3⟩ := mi e2 m2
        rw [z1] at k3; cases k3
        rw [z2] at l3; cases l3
        exact lentV_inj nd k2 l2 k1 l1
      · rw [← hg]
        unfold L2.start
        rw [List.length_append, List.length_append, List.length_map, List.length_replicate, List.length_replicate, sl, hN, hl]
    have noOw : ∀ a, ¬ Ow (L2.start N vs) g a := fun a ⟨i, t, e, _⟩ => by
      obtain ⟨_, z, _⟩ := mi e (t := t) rfl
      cases z
    -- behind the body
    have cp : ∀ {σ' : Sl} {H' F' : Hp} {g' : G} {o : Bool} {t : T} {v : V} {ls : List T}, Ext W (L2.start N vs) H F g σ' H' F' g' → outs bs g' = some ls → OwnV W (fun a => H a = none ∨ Ow (L2.start N vs) g a) σ' H' F' g' (o, t) v → CPost W H F bs vs ⟨o, t, ls⟩ v H' F' := by
      intro σ' H' F' g' o t v ls x ho mv
      refine ⟨x.mono, x.st.same, fun a ob ha' n => x.keep a ob ha' ?_, x.dom, fun a ob e => ?_, ?_, ?_⟩
      · rintro ⟨i, s, u, k1, k2, k3⟩
        obtain ⟨w, _, l1, l2, _, l3⟩ := mi k1 (Slot.mine_of_mut k2)
        rw [k3] at l3; cases l3
        exact n (lentV_mem l2 l1)
      · rcases x.newF a ob e with k | k | k
        · exact .inl k
        · exact .inr k
        · exact absurd k (noOw a)
      · refine outs_ok hl (fun i u w k1 k2 k3 => ?_) ho
        obtain ⟨t0, k4⟩ := slots0_bo ha k2
        have k5 : g[i]? = some (.bo t0) := by
          rw [← hg, List.getElem?_append_left (List.getElem?_eq_some_iff.mp k4).1]; exact k4
        have k6 := x.borS i t0 k5
        obtain ⟨a, ob, m1, m2, m3, m4⟩ := (x.st.slot i _ k1).mine (t := u) rfl
        rw [k6, start_at k3] at m1
        cases m1
        exact ⟨a, ob, rfl, m2, m3, m4⟩
      · unfold OwnV at mv
        split
        · rename_i c
          rw [if_pos c] at mv
          obtain ⟨a, ob, h1, h2, h3, h4, h5, _⟩ := mv
          rcases h2 with h2 | h2
          · exact ⟨a, ob, h1, h2, h3, h4, h5⟩
          · exact absurd h2 (noOw a)
        · rename_i c
          rw [if_neg c] at mv
          exact mv
    cases q : evSs gl (evF gl tb k) d.body g with
    | none => rw [q] at e; cases e
    | some p =>
      obtain ⟨fl, g'⟩ := p
      rw [q] at e
      refine ⟨F, g, fl, g', st, q, ?_⟩
      cases fl with
      | next =>
        simp only at e
        rw [hb] at e
        cases ho : outs bs g' with
        | none => rw [ho] at e; cases e
        | some ls =>
          rw [ho] at e; cases e
          exact fun σ' H' F' x => post .non H' F' (cp x ho .non)
      | ret o t =>
        simp only at e
        rw [hb] at e
        cases ho : outs bs g' with
        | none => rw [ho] at e; cases e
        | some ls =>
          rw [ho] at e; cases e
          exact fun v σ' H' F' x mv => post v H' F' (cp x ho mv)
      | brk => cases e
      | cont => cases e
  · cases e
theorem sp_len {f : String} {bs : List Bool} {vs : List V} {H : Hp} {Q : VK} {E : XK} {n : Nat} (hn : bs.length = n) (h : spF W cl f bs vs H Q E) : vs.length = n := h.1.trans hn
theorem sp_zero {tb : String → Option Fd} {f : String} {bs : List Bool} {vs : List V} {H : Hp} {Q : VK} {E : XK} (h : spF W (evF gl tb 0) f bs vs H Q E) : False := by
  obtain ⟨_, F, ts, r, _, _, _, e, _⟩ := h
  cases e
end
section
variable {P : Program} {w : World} {K : PySem.W.Frag} {mg : Str → Option Value} {base : Heap} {gl : String → Option T} {tb : String → Option Fd} {W : Wd}
theorem ok_zero {f : Addr} {fd : FuncData} {ps : List Str} {fn : String} {bs : List Bool} (hn : bs.length = ps.length) : FnOk P w K mg base CX0 0 f fd ps (spF W (evF gl tb 0) fn bs) :=
  ⟨fun vs H Q E h => (sp_zero h).elim, fun A outer s H args us vs Q E _ _ _ _ h => (sp_zero h).elim⟩
theorem u64 {A : Around} {k : Nat} (hr : Room k A) : A.units + 64 < cLine := by have := hr.un; omega
theorem u65 {A : Around} {k : Nat} (hr : Room k A) : A.units + 65 < cLine := by have := hr.un; omega
theorem u1 {A : Around} {k : Nat} (hr : Room k A) : A.units + 1 < cLine := by have := hr.un; omega
theorem hr2 {A : Around} {k : Nat} (hr : Room (k + 1) A) : Room k A := hr.mono (Nat.le_succ k)
/-- the law's own promise, from the plain law -/
theorem law_sp {k n : Nat} {cA : String → Option Addr} (hl : ∀ ns : List Int, ns.length ≤ n → ∃ r, evF gl tb k "law" [.frl (ns.map T.int)] = some r ∧ r.t = .bl true) (H : Hp) (a : Addr) (ns : List Int) (h : ns.length ≤ n) (hS : SqL K H a (ns.map V.int)) :
    spF ⟨K, cA⟩ (evF gl tb k) "law" [false] [.ref a] H (fun v _ => v = .bl true) (fun _ _ _ => False) := by
  obtain ⟨r, e, et⟩ := hl ns h
  refine ⟨rfl, fun b => if b = a then H b else none, [.frl (ns.map T.int)], r, .val (.frl (vs := ns.map V.int) ?_ ?_) .nil, by simp [lentV], fun b o e => ?_, e, fun v H' F' c => ?_⟩
  · rcases hS with (h | ⟨o, h⟩) | h
    · exact .inl (.inl (by show (if a = a then H a else none) = _; rw [if_pos rfl]; exact h))
    · exact .inl (.inr ⟨o, by show (if a = a then H a else none) = _; rw [if_pos rfl]; exact h⟩)
    · exact .inr h
  · clear h hS e
    induction ns with
    | nil => exact .nil
    | cons x r ih => exact .cons (.int x) ih
  · have e : (if b = a then H b else none) = some o := e
    split at e
    · exact e
    · cases e
  · have k := c.val
    rw [et] at k
    split at k
    · obtain ⟨_, _, _, _, _, _, z⟩ := k; cases z
    · cases k; rfl
end
end PV

/-! PV28: rules in short, for printed terms -/
namespace PV
open PySem PySem.Spec PyProof.Rows L2
def Blt.ok : Blt → Bool
  | .gcd => false
  | _ => true
theorem Blt.boot {b : Blt} (h : b.ok = true) : bootBuiltins (Str.ofString b.nm) = some b.val := by
  cases b <;> first | decide +kernel | cases h
theorem Blt.nn (b : Blt) (h : b.ok = true) : Str.ofString b.nm ≠ "__name__" ∧ (Str.ofString b.nm == ("__debug__" : Str)) = false := by
  cases b <;> first | decide +kernel | cases h
section
variable {W : Wd} {gl : String → Option T} {cl : Cl} {X : Cx} {pos : Pos}
theorem fn_any {b : Blt} (hb : b.ok = true) {e : Expr} {es : List Expr} {p : Pos} {cs : List CE} (hK : X.K = W.K) (hc : X.calm = true) (hu : X.A.units + 64 < cLine) (hg : Gl X (Str.ofString b.nm)) (hm : X.mg (Str.ofString b.nm) = none) (he : starEach (e :: es) X.env = (false, eval e X.env) :: starEach es X.env) (hpl : (backTo pos (starEach es X.env)).any (·.1) = false)
    (h : PA X (e :: es) (GoA W (fun _ H' F' ts vs => Curs W H' F' vs ts) (evBlt gl cl cs))) : Sd W gl cl X (.Call (.Name (Str.ofString b.nm) p) (e :: es) [] pos) (.blt b cs) := by
  obtain ⟨n1, n2⟩ := b.nn hb
  refine sd_blt hK hc (fun {t} h => ?_) h
  have cr := blt2_ok (W := W) hK hc hu b
  have bo := b.boot hb
  unfold Blt.val at cr bo
  cases hy : b.isTy with
  | true =>
    rw [hy, if_pos rfl] at cr bo
    exact pe_callTy cr hg hm bo h n1 n2 he hpl
  | false =>
    rw [hy, if_neg (by simp)] at cr bo
    exact pe_callB cr hg hm bo h n1 n2 he hpl
theorem fn1 {b : Blt} (hb : b.ok = true) {e : Expr} {p : Pos} {c : CE} (hK : X.K = W.K) (hc : X.calm = true) (hu : X.A.units + 64 < cLine) (hg : Gl X (Str.ofString b.nm)) (hm : X.mg (Str.ofString b.nm) = none) (ns : notStar e = true) (h : Sd W gl cl X e c) : Sd W gl cl X (.Call (.Name (Str.ofString b.nm) p) [e] [] pos) (.blt b [c]) :=
  fn_any hb hK hc hu hg hm (star_no ns) rfl (pa_blt1 ns h)
theorem fn2 {b : Blt} (hb : b.ok = true) {e e2 : Expr} {p : Pos} {c c2 : CE} (hK : X.K = W.K) (hc : X.calm = true) (hu : X.A.units + 64 < cLine) (hg : Gl X (Str.ofString b.nm)) (hm : X.mg (Str.ofString b.nm) = none) (ns : notStar e = true) (ns2 : notStar e2 = true) (hpl : (backTo pos (starEach [e2] X.env)).any (·.1) = false) (h : Sd W gl cl X e c) (h2 : Sd W gl cl X e2 c2) : Sd W gl cl X (.Call (.Name (Str.ofString b.nm) p) [e, e2] [] pos) (.blt b [c, c2]) :=
  fn_any hb hK hc hu hg hm (star_no ns) hpl (pa_blt2 ns h (pa_kept_cons ns2 h2 pa_kept_nil))
theorem fnN {b : Blt} (hb : b.ok = true) {e e2 : Expr} {es : List Expr} {p : Pos} {c c2 : CE} {cs : List CE} (hK : X.K = W.K) (hc : X.calm = true) (hu : X.A.units + 64 < cLine) (hg : Gl X (Str.ofString b.nm)) (hm : X.mg (Str.ofString b.nm) = none) (ns : notStar e = true) (hpl : (backTo pos (starEach (e2 :: es) X.env)).any (·.1) = false) (h : Sd W gl cl X e c) (hr : PA X (e2 :: es) (GoA W (RL W) (evKept gl cl (c2 :: cs)))) : Sd W gl cl X (.Call (.Name (Str.ofString b.nm) p) (e :: e2 :: es) [] pos) (.blt b (c :: c2 :: cs)) :=
  fn_any hb hK hc hu hg hm (star_no ns) hpl (pa_blt2 ns h hr)
theorem isa1 {a ty : Expr} {p : Pos} {c : CE} {y : Ty} {flds : List String} (hK : X.K = W.K) (C : Clss W flds) (hg : Gl X "isinstance") (hm : X.mg "isinstance" = none) (ns : notStar a = true) (ns2 : notStar ty = true) (hpl : (backTo pos (starEach [ty] X.env)).any (·.1) = false) (ha : Sd W gl cl X a c) (hy : TyE X W ty y) :
    Sd W gl cl X (.Call (.Name "isinstance" p) [a, ty] [] pos) (.isa c [y]) :=
  sd_isa1 hK C ns ns2 (fun h => pe_callB call_isi hg hm PyProof.Rows.boot_isinstance h (by decide) (by decide) (star_no ns) hpl) ha hy
theorem isaT {a : Expr} {es : List Expr} {k : Nat} {p p2 : Pos} {c : CE} {ys : List Ty} {flds : List String} (hK : X.K = W.K) (C : Clss W flds) (hg : Gl X "isinstance") (hm : X.mg "isinstance" = none) (ns : notStar a = true) (hz : es.length ≤ 100) (ha : Sd W gl cl X a c) (hy : TyEs X W es ys) :
    Sd W gl cl X (.Call (.Name "isinstance" p) [a, .Tuple es k p2] [] pos) (.isa c ys) :=
  sd_isaT hK C ns (fun h => pe_callB call_isiT hg hm PyProof.Rows.boot_isinstance h (by decide) (by decide) (star_no ns) rfl) hz ha hy
theorem ty_b {y : Ty} {n : String} {p : Pos} (hv : y.val W (.type n) (.ty n)) (hg : Gl X (Str.ofString n)) (hm : X.mg (Str.ofString n) = none) (bo : bootBuiltins (Str.ofString n) = some (.type n)) (r : RelV (.ty n) (.type n)) (nn : Str.ofString n ≠ "__name__") (nd : (Str.ofString n == ("__debug__" : Str)) = false) : TyE X W (.Name (Str.ofString n) p) y :=
  .mk (pe_bltn hg hm bo r nn nd) hv
theorem ty_int {p : Pos} (hg : Gl X "int") (hm : X.mg "int" = none) : TyE X W (.Name "int" p) .int := ty_b (n := "int") ⟨rfl, rfl⟩ hg hm (by decide +kernel) rfl (by decide +kernel) (by decide +kernel)
theorem ty_bool {p : Pos} (hg : Gl X "bool") (hm : X.mg "bool" = none) : TyE X W (.Name "bool" p) .bool := ty_b (n := "bool") ⟨rfl, rfl⟩ hg hm (by decide +kernel) rfl (by decide +kernel) (by decide +kernel)
theorem ty_str {p : Pos} (hg : Gl X "str") (hm : X.mg "str" = none) : TyE X W (.Name "str" p) .str := ty_b (n := "str") ⟨rfl, rfl⟩ hg hm (by decide +kernel) rfl (by decide +kernel) (by decide +kernel)
theorem ty_tuple {p : Pos} (hg : Gl X "tuple") (hm : X.mg "tuple" = none) : TyE X W (.Name "tuple" p) .tuple := ty_b (n := "tuple") ⟨rfl, rfl⟩ hg hm (by decide +kernel) rfl (by decide +kernel) (by decide +kernel)
theorem ty_list {p : Pos} (hg : Gl X "list") (hm : X.mg "list" = none) : TyE X W (.Name "list" p) .list := ty_b (n := "list") ⟨rfl, rfl⟩ hg hm (by decide +kernel) rfl (by decide +kernel) (by decide +kernel)
theorem ty_dict {p : Pos} (hg : Gl X "dict") (hm : X.mg "dict" = none) : TyE X W (.Name "dict" p) .dict := ty_b (n := "dict") ⟨rfl, rfl⟩ hg hm (by decide +kernel) rfl (by decide +kernel) (by decide +kernel)
theorem ty_cls {x : Str} {p : Pos} {c : String} {C : Addr} (hC : W.cA c = some C) (hg : Gl X x) (hm : X.mg x = some (.ref C)) (nd : (x == ("__debug__" : Str)) = false) : TyE X W (.Name x p) (.cls c) :=
  .mk (pe_glob (v := .ref C) hg hm rfl nd) ⟨C, hC, rfl, rfl⟩
theorem gc_int {x : String} {i : Int} {p : Pos} (e : gl x = some (.int i)) (hg : Gl X (Str.ofString x)) (hm : ∃ t, X.mg (Str.ofString x) = some (.int i t)) (nd : (Str.ofString x == ("__debug__" : Str)) = false) : Sd W gl cl X (.Name (Str.ofString x) p) (.glob x) := by
  obtain ⟨t, h⟩ := hm
  exact sd_glob e (pe_glob (v := .int i) hg h ⟨t, rfl⟩ nd) fun _ => .int i
/-- a call of a def -/
theorem cl_any {P : Program} {w : World} {CXX : CXT} {k : Nat} {f : Addr} {fd : FuncData} {ps : List Str} {fn : String} {bs : List Bool} {x : Str} {e : Expr} {es : List Expr} {as : List CE} {p : Pos} (F : FnOk X.prog X.w X.K X.mg X.base CX0 k f fd ps (spF W cl fn bs)) (hr : Room k X.A) (hg : Gl X x) (hm : X.mg x = some (.ref f)) (kp : PySem.W.keepIn X.K (.ref f) = true) (hb : Binds X.K fd ps []) (nd : (x == ("__debug__" : Str)) = false) (he : starEach (e :: es) X.env = (false, eval e X.env) :: starEach es X.env) (hpl : (backTo pos (starEach es X.env)).any (·.1) = false) (hl : lentB as = bs)
    (h : PA X (e :: es) (GoA W (fun σ _ F' ts vs => ArgV W σ F' as ts vs) (evArgs gl cl as))) : Sd W gl cl X (.Call (.Name x p) (e :: es) [] pos) (.call fn as) :=
  sd_call hl (fun h => pe_call F hr hg hm kp hb .nil pass0 h nd he hpl) h
/-- an instance is made -/
theorem mk_any {k : Nat} {f C : Addr} {fd : FuncData} {ps : List Str} {c : String} {x : Str} {e : Expr} {es : List Expr} {as : List CE} {p : Pos} (hC : W.cA c = some C) (M : Mk X.K C f) (F : FnOk X.prog X.w X.K X.mg X.base CX0 k f fd ps (spF W cl (c ++ ".__init__") (true :: as.map fun _ => false))) (hr : Room (k + 1) X.A) (hg : Gl X x) (hm : X.mg x = some (.ref C)) (hb : Binds X.K fd ps []) (nd : (x == ("__debug__" : Str)) = false) (he : starEach (e :: es) X.env = (false, eval e X.env) :: starEach es X.env) (hpl : (backTo pos (starEach es X.env)).any (·.1) = false)
    (h : PA X (e :: es) (GoA W (RL W) (evKept gl cl as))) : Sd W gl cl X (.Call (.Name x p) (e :: es) [] pos) (.make c as) :=
  sd_make hC (fun h => pe_make M F hr hg hm hb .nil pass0 h nd he hpl) h
end
/-- a comprehension's own names -/
def blkB (N : List Str) (sc scope : Scope) (own : List (Str × Nat)) : Bool :=
  (match scope.kind with | .function => true | _ => false) && scope.names.all (fun y => scope.names.lookup y.1 == some y.2) && own.all (fun p => N[p.2]? == some p.1)
  && scope.names.all (fun y => if y.2 == .free then sc.names.lookup y.1 == some .cell || sc.names.lookup y.1 == some .free else true)
  && scope.names.all (fun y => if y.2 == .local || y.2 == .cell then (own.map (·.1)).contains y.1 || !(N.contains y.1) else true)
theorem blk_mk {N : List Str} {sc scope : Scope} {own : List (Str × Nat)} (h : blkB N sc scope own = true) : BlkOk N sc scope own := by
  unfold blkB at h
  simp only [Bool.and_eq_true, List.all_eq_true] at h
  obtain ⟨⟨⟨⟨h1, h2⟩, h3⟩, h4⟩, h5⟩ := h
  refine ⟨?_, fun y hy => by simpa using h2 y hy, fun p hp => by simpa using h3 p hp, fun y hy e => ?_, fun y hy e => ?_⟩
  · cases hk : scope.kind <;> rw [hk] at h1 <;> first | rfl | cases h1
  · have q := h4 y hy
    rw [e] at q
    simpa using q
  · have q := h5 y hy
    have e' : (y.2 == NameKind.local || y.2 == NameKind.cell) = true := by simpa using e
    rw [if_pos e'] at q
    simpa using q
section
variable {gl : String → Option T} {tb : String → Option Fd} {k : Nat}
def spL (gl : String → Option T) (tb : String → Option Fd) (k : Nat) (K : PySem.W.Frag) : Sp := fun vs H Q E => ∀ cA : String → Option Addr, spF ⟨K, cA⟩ (evF gl tb k) "law" [false] vs H Q E
theorem walk (hk : Room (2 * k) callerA) (law : ∀ ns : List Int, ns.length ≤ 63 → ∃ r, evF gl tb k "law" [.frl (ns.map T.int)] = some r ∧ r.t = .bl true)
    {l : PySem.W.OpenLaw} {q : Program} {loose : List Str} {XP : (Str → Option Value) → Heap → Prop} {YP : World → Heap → Prop} {d : DefRec} {K : Params → PySem.W.Frag} (hn : l.most = some 63) (hdf : d.params.defaults = [])
    (hY : ∀ (w : World) (h : Heap), YP w h → (K w.params).In h)
    (F : ∀ (w : World) (mg : Str → Option Value) (fa : Addr) (h : Heap), (K w.params).In h → h.Ns mainGlobals mg → mg d.name = some (.ref fa) →
      ∃ fd : FuncData, (∀ (s : Shared) (u : Value), BindsTo s fd ⟨[u], []⟩ [("script", u)]) ∧ ∀ base : Heap, (K w.params).In base → base.Ns mainGlobals mg → FnOk l.prog w (K w.params) mg base CX0 (2 * k) fa fd ["script"] (spL gl tb k (K w.params))) :
    PySem.W.WalkO q loose XP YP l.row.toRowW d [] (fun f vs => PySem.call f vs) :=
  L2.walk_of (n := 63) (k := 2 * k) (x := "script") (CX := fun _ => CX0) (sp := fun w => spL gl tb k (K w.params)) hn (by decide) hdf hk hY F (fun _ H a ns hl _ hS => fun _ => law_sp law H a ns hl hS) fun _ _ _ _ _ z => z
end
theorem cls_kc {K : PySem.W.Frag} {C : Addr} {od : Option Addr} {cd : ClassData} {sl : Array (Option Value)} (l : K.lookup C = some ⟨.type "type", od, .cls cd, sl⟩) : ((PySem.W.clsIn K C).isSome && PySem.W.typeIn K (.ref C) == some (.type "type")) = true := by
  have e1 : PySem.W.clsIn K C = some cd := by unfold PySem.W.clsIn; rw [l]
  have e2 : PySem.W.typeIn K (.ref C) = some (.type "type") := by show (K.lookup C).map (·.cls) = _; rw [l]; rfl
  rw [e1, e2]
  simp
theorem cls_mro {K : PySem.W.Frag} {C : Addr} {od : Option Addr} {cd : ClassData} {sl : Array (Option Value)} {m : List Value} (l : K.lookup C = some ⟨.type "type", od, .cls cd, sl⟩) (h : cd.mro = m) : (PySem.W.clsIn K C).map (·.mro) = some m := by
  have e1 : PySem.W.clsIn K C = some cd := by unfold PySem.W.clsIn; rw [l]
  rw [e1, ← h]
  rfl
theorem cls_me {K : PySem.W.Frag} {C : Addr} : PySem.W.kitOne K (.ref C) (.ref C) = some true := if_pos (beq_self_eq_true _)
end PV

/-! PVG: gcd, by its name in the module -/
namespace PV
open PySem PySem.Spec PyProof.Rows L2
section
variable {W : Wd} {gl : String → Option T} {cl : Cl} {X : Cx} {pos : Pos}
theorem fn_gcd {e e2 : Expr} {p : Pos} {c c2 : CE} (hK : X.K = W.K) (hc : X.calm = true) (hu : X.A.units + 64 < cLine) (hg : Gl X "gcd") (hm : X.mg "gcd" = some (.builtin "math.gcd")) (ns : notStar e = true) (ns2 : notStar e2 = true) (hpl : (backTo pos (starEach [e2] X.env)).any (·.1) = false) (h : Sd W gl cl X e c) (h2 : Sd W gl cl X e2 c2) :
    Sd W gl cl X (.Call (.Name "gcd" p) [e, e2] [] pos) (.blt .gcd [c, c2]) := by
  refine sd_blt hK hc (fun {t} h => ?_) (pa_blt2 ns h (pa_kept_cons ns2 h2 pa_kept_nil))
  have cr := blt2_ok (W := W) hK hc hu .gcd
  exact pe_callBfun cr hg hm h (by decide) (star_no ns) hpl
end
end PV

namespace K63
open PySem PySem.Spec PyProof.Rows L2 PV
/-! ### the core form -/
def d_is_whole : Fd := ⟨[false], 1, [(.ret [(.and [(.isa (.var 0) [.int]), (.not (.isa (.var 0) [.bool]))])])]⟩
def c1_as_tuples : CE := (.call "as_tuples" [(.var 1)])
def d_as_tuples : Fd := ⟨[false], 2, [(.ite (.isa (.var 0) [.list, .tuple]) [(.ret [(.blt .tuple [(.comp [1] (.at 1) (.seq (.var 0)) [] c1_as_tuples)])])] []), (.ret [(.var 0)])]⟩
def d_lowest : Fd := ⟨[false, false], 3, [(.set 2 (.blt .gcd [(.var 0), (.var 1)])), (.ret [(.tup [(.bin .fdiv (.var 0) (.var 2)), (.bin .fdiv (.var 1) (.var 2))])])]⟩
def d_added : Fd := ⟨[false, false], 2, [(.ret [(.call "lowest" [(.bin .add (.bin .mul (.ix (.var 0) (.int 0)) (.ix (.var 1) (.int 1))) (.bin .mul (.ix (.var 1) (.int 0)) (.ix (.var 0) (.int 1)))), (.bin .mul (.ix (.var 0) (.int 1)) (.ix (.var 1) (.int 1)))])])]⟩
def d_times : Fd := ⟨[false, false], 2, [(.ret [(.call "lowest" [(.bin .mul (.ix (.var 0) (.int 0)) (.ix (.var 1) (.int 0))), (.bin .mul (.ix (.var 0) (.int 1)) (.ix (.var 1) (.int 1)))])])]⟩
def d_is_less : Fd := ⟨[false, false], 2, [(.ret [(.cmp .lt (.bin .mul (.ix (.var 0) (.int 0)) (.ix (.var 1) (.int 1))) (.bin .mul (.ix (.var 1) (.int 0)) (.ix (.var 0) (.int 1))))])]⟩
def d_Flip___init__ : Fd := ⟨[true, false], 2, [(.setFld "place" (.call "as_tuples" [(.var 1)]))]⟩
def d_need_things : Fd := ⟨[false], 1, [(.ite (.tor [(.not (.call "is_whole" [(.var 0)])), (.not (.chain .le .le (.int 1) (.var 0) (.glob "MOST_THINGS")))]) [.dead] [])]⟩
def c1_known_places : CE := (.and [(.call "is_whole" [(.var 3)]), (.chain .le .le (.int 1) (.var 3) (.var 0))])
def c2_known_places : CE := (.cmp .lt (.var 3) (.var 4))
def d_known_places : Fd := ⟨[false, false], 5, [(.expr (.call "need_things" [(.var 0)])), (.set 2 (.ite (.isa (.var 1) [.list]) (.blt .tuple [(.var 1)]) (.var 1))), (.ite (.tor [(.not (.isa (.var 2) [.tuple])), (.not (.blt .all [(.comp [3] (.at 3) (.seq (.var 2)) [] c1_known_places)]))]) [.dead] []), (.ite (.not (.blt .all [(.comp [3, 4] (.row [(.at 3), (.at 4)]) (.zip [(.slice (.var 2) [] [(.neg (.int 1))]), (.slice (.var 2) [(.int 1)] [])]) [] c2_known_places)])) [.dead] []), (.ret [(.var 2)])]⟩
def b1_lot_chance_by : List CS := [(.set 3 (.call "added" [(.var 3), (.call "times" [(.var 4), (.tup [(.int 1), (.var 0)])])])), (.set 4 (.call "times" [(.var 4), (.call "lowest" [(.bin .sub (.var 2) (.int 1)), (.var 2)])]))]
def d_lot_chance_by : Fd := ⟨[false, false], 5, [(.par [3, 4] [(.tup [(.int 0), (.int 1)]), (.tup [(.int 1), (.int 1)])]), (.for (.at 2) (.seq (.var 1)) b1_lot_chance_by), (.ret [(.var 3)])]⟩
def d_chance_of_best : Fd := ⟨[false, false], 3, [(.set 2 (.call "known_places" [(.var 0), (.var 1)])), (.ret [(.call "lot_chance_by" [(.var 0), (.var 2)])])]⟩
def b1_chances_behind : List CS := [(.par [4, 5] [(.call "lowest" [(.var 2), (.var 0)]), (.ix (.var 1) (.neg (.int 1)))]), (.set 3 (.ite (.call "is_less" [(.var 4), (.var 5)]) (.var 5) (.var 4))), (.expr (.mut .append 1 [(.call "added" [(.call "times" [(.tup [(.int 1), (.var 2)]), (.var 3)]), (.call "times" [(.call "lowest" [(.bin .sub (.var 2) (.int 1)), (.var 2)]), (.var 5)])])]))]
def d_chances_behind : Fd := ⟨[false], 6, [(.set 1 (.lst [(.tup [(.int 0), (.int 1)])])), (.for (.at 2) (.rng [(.var 0), (.int 0), (.neg (.int 1))]) b1_chances_behind), (.ret [(.rev (.var 1))])]⟩
def d_behind_chances : Fd := ⟨[false], 1, [(.expr (.call "need_things" [(.var 0)])), (.ret [(.blt .tuple [(.slice (.call "chances_behind" [(.var 0)]) [(.int 1)] [])])])]⟩
def d_greatest_chance : Fd := ⟨[false], 1, [(.expr (.call "need_things" [(.var 0)])), (.ret [(.ix (.call "chances_behind" [(.var 0)]) (.int 0))])]⟩
def w1_best_start : CE := (.tand [(.cmp .gt (.var 2) (.int 1)), (.not (.call "is_less" [(.tup [(.int 1), (.int 1)]), (.call "added" [(.var 1), (.tup [(.int 1), (.bin .sub (.var 2) (.int 1))])])]))])
def b2_best_start : List CS := [(.par [1, 2] [(.call "added" [(.var 1), (.tup [(.int 1), (.bin .sub (.var 2) (.int 1))])]), (.bin .sub (.var 2) (.int 1))])]
def d_best_start : Fd := ⟨[false], 3, [(.expr (.call "need_things" [(.var 0)])), (.par [1, 2] [(.tup [(.int 0), (.int 1)]), (.var 0)]), (.while w1_best_start b2_best_start), (.ret [(.var 2)])]⟩
def d_is_flip : Fd := ⟨[false, false, false, false], 5, [(.ite (.tand [(.mem (.int 1) (.var 1) false), (.cmp .ne (.var 2) (.int 1))]) [(.ret [(.bl false)])] []), (.set 4 (.call "lowest" [(.var 2), (.var 0)])), (.ret [(.ite (.mem (.var 2) (.var 1) false) (.call "is_less" [(.var 4), (.ix (.var 3) (.var 2))]) (.call "is_less" [(.ix (.var 3) (.var 2)), (.var 4)]))])]⟩
def b1_first_flip : List CS := [(.ite (.call "is_flip" [(.var 0), (.var 2), (.var 4), (.var 3)]) [(.ret [(.make "Flip" [(.var 4)])])] [])]
def d_first_flip : Fd := ⟨[false, false], 5, [(.set 2 (.call "known_places" [(.var 0), (.var 1)])), (.set 3 (.call "chances_behind" [(.var 0)])), (.for (.at 4) (.rng [(.int 1), (.bin .add (.var 0) (.int 1))]) b1_first_flip), (.ret [.non])]⟩
def b1_best_lots_many : List CS := [(.set 5 (.bin .mul (.var 5) (.ite (.cmp .eq (.call "lowest" [(.var 1), (.var 0)]) (.ix (.var 4) (.var 1))) (.int 2) (.int 1))))]
def d_best_lots_many : Fd := ⟨[false], 6, [(.expr (.call "need_things" [(.var 0)])), (.par [4, 5] [(.call "chances_behind" [(.var 0)]), (.int 1)]), (.for (.at 1) (.rng [(.int 2), (.bin .add (.var 0) (.int 1))]) b1_best_lots_many), (.set 2 (.call "lowest" [(.int 1), (.var 0)])), (.set 3 (.ite (.call "is_less" [(.var 2), (.ix (.var 4) (.int 1))]) (.int 0) (.bin .shl (.int 1) (.bin .sub (.var 0) (.int 1))))), (.ret [(.bin .add (.var 3) (.ite (.call "is_less" [(.ix (.var 4) (.int 1)), (.var 2)]) (.int 0) (.var 5)))])]⟩
def b1__law_sum_of : List CS := [(.set 1 (.call "_law_add" [(.var 1), (.var 2)]))]
def d__law_sum_of : Fd := ⟨[false], 3, [(.set 1 (.tup [(.int 0), (.int 1)])), (.for (.at 2) (.seq (.var 0)) b1__law_sum_of), (.ret [(.var 1)])]⟩
def d__law_greater : Fd := ⟨[false, false], 2, [(.ret [(.ite (.call "_law_below" [(.var 0), (.var 1)]) (.var 1) (.var 0))])]⟩
def b1__law_pen : List CS := [(.set 1 (.bin .mod (.blt .int [(.bin .add (.bin .mul (.var 1) (.int 47)) (.var 2))]) (.int 1000000007)))]
def d__law_pen : Fd := ⟨[false], 3, [(.set 1 (.int 0)), (.for (.at 2) (.seq (.var 0)) b1__law_pen), (.ret [(.dct [(.str "cells"), (.blt .list [(.var 0)]), (.str "at"), (.int 0), (.str "digits"), (.int 0), (.str "count"), (.int 0), (.str "fold"), (.var 1)])])]⟩
def d__law_draw : Fd := ⟨[true, false], 5, [(.setIx 0 (.str "count") (.bin .add (.ix (.var 0) (.str "count")) (.int 1))), (.ite (.tand [(.cmp .eq (.ix (.var 0) (.str "digits")) (.int 0)), (.cmp .lt (.ix (.var 0) (.str "at")) (.blt .len [(.ix (.var 0) (.str "cells"))]))]) [(.set 3 (.ix (.ix (.var 0) (.str "cells")) (.ix (.var 0) (.str "at")))), (.setIx 0 (.str "at") (.bin .add (.ix (.var 0) (.str "at")) (.int 1))), (.ite (.cmp .ge (.var 3) (.bin .pow (.int 10) (.int 18))) [(.setIx 0 (.str "digits") (.bin .sub (.var 3) (.bin .pow (.int 10) (.int 18))))] [(.setIx 0 (.str "fold") (.bin .mod (.blt .int [(.bin .add (.bin .mul (.ix (.var 0) (.str "fold")) (.int 69069)) (.var 3))]) (.int 2147483587)))])] []), (.ite (.cmp .gt (.ix (.var 0) (.str "digits")) (.int 0)) [(.set 4 (.bin .mod (.blt .int [(.ix (.var 0) (.str "digits"))]) (.var 1))), (.setIx 0 (.str "digits") (.bin .fdiv (.ix (.var 0) (.str "digits")) (.var 1))), (.ret [(.var 4)])] []), (.set 2 (.bin .mod (.blt .int [(.bin .add (.bin .add (.bin .mul (.ix (.var 0) (.str "fold")) (.int 48271)) (.bin .mul (.ix (.var 0) (.str "count")) (.int 7919))) (.int 13))]) (.int 2147483647))), (.set 2 (.bin .mod (.blt .int [(.bin .add (.bin .add (.bin .mul (.var 2) (.var 2)) (.bin .mul (.int 31) (.var 2))) (.ix (.var 0) (.str "count")))]) (.int 2147483629))), (.setIx 0 (.str "fold") (.bin .mod (.blt .int [(.bin .add (.bin .mul (.var 2) (.int 16807)) (.int 7))]) (.int 2147483647))), (.ret [(.bin .mod (.blt .int [(.bin .fdiv (.var 2) (.int 64))]) (.var 1))])]⟩
def d__law_pick : Fd := ⟨[true, false], 2, [(.ret [(.ix (.var 1) (.call "_law_draw" [(.bor 0), (.blt .len [(.var 1)])]))])]⟩
def i1__law_is : List CE := [(.not (.call "_law_is" [(.ix (.var 0) (.var 2)), (.ix (.var 1) (.var 2))]))]
def c2__law_is : CE := (.var 2)
def d__law_is : Fd := ⟨[false, false], 3, [(.ite (.isa (.var 1) [.tuple]) [(.ite (.tor [(.not (.isa (.var 0) [.tuple])), (.cmp .ne (.blt .len [(.var 0)]) (.blt .len [(.var 1)]))]) [(.ret [(.bl false)])] []), (.ret [(.cmp .eq (.comp [2] (.at 2) (.rng [(.blt .len [(.var 1)])]) i1__law_is c2__law_is) (.lst []))])] []), (.ite (.isn (.var 1) false) [(.ret [(.isn (.var 0) false)])] []), (.ite (.isb (.var 1) true false) [(.ret [(.isb (.var 0) true false)])] []), (.ite (.isb (.var 1) false false) [(.ret [(.isb (.var 0) false false)])] []), (.ite (.isa (.var 1) [.str]) [(.ret [(.and [(.isa (.var 0) [.str]), (.cmp .eq (.var 0) (.var 1))])])] []), (.ret [(.and [(.isa (.var 0) [.int]), (.not (.isa (.var 0) [.bool])), (.cmp .eq (.var 0) (.var 1))])])]⟩
def w1__law_gcd : CE := (.cmp .ne (.var 1) (.int 0))
def b2__law_gcd : List CS := [(.par [0, 1] [(.var 1), (.bin .mod (.blt .int [(.var 0)]) (.var 1))])]
def d__law_gcd : Fd := ⟨[false, false], 2, [(.par [0, 1] [(.blt .abs [(.var 0)]), (.blt .abs [(.var 1)])]), (.while w1__law_gcd b2__law_gcd), (.ret [(.var 0)])]⟩
def d__law_pair : Fd := ⟨[false, false], 3, [(.set 2 (.call "_law_gcd" [(.var 0), (.var 1)])), (.set 2 (.ite (.cmp .gt (.var 1) (.int 0)) (.var 2) (.neg (.var 2)))), (.ret [(.tup [(.bin .fdiv (.blt .int [(.var 0)]) (.var 2)), (.bin .fdiv (.blt .int [(.var 1)]) (.var 2))])])]⟩
def d__law_add : Fd := ⟨[false, false], 2, [(.ret [(.call "_law_pair" [(.bin .add (.bin .mul (.ix (.var 0) (.int 0)) (.ix (.var 1) (.int 1))) (.bin .mul (.ix (.var 1) (.int 0)) (.ix (.var 0) (.int 1)))), (.bin .mul (.ix (.var 0) (.int 1)) (.ix (.var 1) (.int 1)))])])]⟩
def d__law_mul : Fd := ⟨[false, false], 2, [(.ret [(.call "_law_pair" [(.bin .mul (.ix (.var 0) (.int 0)) (.ix (.var 1) (.int 0))), (.bin .mul (.ix (.var 0) (.int 1)) (.ix (.var 1) (.int 1)))])])]⟩
def d__law_below : Fd := ⟨[false, false], 2, [(.ret [(.cmp .lt (.bin .mul (.ix (.var 0) (.int 0)) (.ix (.var 1) (.int 1))) (.bin .mul (.ix (.var 1) (.int 0)) (.ix (.var 0) (.int 1))))])]⟩
def c1__law_lots : CE := (.bin .add (.var 3) (.tup [(.var 2)]))
def b2__law_lots : List CS := [(.set 1 (.bin .add (.var 1) (.comp [3] (.at 3) (.seq (.var 1)) [] c1__law_lots)))]
def d__law_lots : Fd := ⟨[false], 4, [(.set 1 (.lst [(.tup [])])), (.for (.at 2) (.rng [(.var 0)]) b2__law_lots), (.ret [(.blt .sorted [(.var 1)])])]⟩
def b1__law_behind : List CS := [(.par [3, 4] [(.call "_law_pair" [(.var 2), (.var 0)]), (.ix (.var 1) (.int 0))]), (.set 1 (.bin .add (.lst [(.call "_law_add" [(.call "_law_mul" [(.call "_law_pair" [(.int 1), (.var 2)]), (.call "_law_greater" [(.var 3), (.var 4)])]), (.call "_law_mul" [(.call "_law_pair" [(.bin .sub (.var 2) (.int 1)), (.var 2)]), (.var 4)])])]) (.var 1)))]
def d__law_behind : Fd := ⟨[false], 5, [(.set 1 (.lst [(.tup [(.int 0), (.int 1)])])), (.for (.at 2) (.rng [(.var 0), (.int 1), (.neg (.int 1))]) b1__law_behind), (.ret [(.var 1)])]⟩
def c1__law_start : CE := (.call "_law_pair" [(.int 1), (.var 3)])
def b2__law_start : List CS := [(.set 2 (.call "_law_sum_of" [(.comp [3] (.at 3) (.rng [(.var 1), (.var 0)]) [] c1__law_start)])), (.ite (.not (.call "_law_below" [(.tup [(.int 1), (.int 1)]), (.var 2)])) [(.ret [(.var 1)])] [])]
def d__law_start : Fd := ⟨[false], 4, [(.for (.at 1) (.rng [(.int 1), (.bin .add (.var 0) (.int 1))]) b2__law_start), (.ret [(.var 0)])]⟩
def b1__law_best_of : List CS := [(.ite (.mem (.bin .sub (.var 5) (.int 1)) (.var 1) false) [(.set 4 (.call "_law_add" [(.call "_law_pair" [(.int 1), (.var 0)]), (.call "_law_mul" [(.call "_law_pair" [(.bin .sub (.var 5) (.int 1)), (.var 5)]), (.var 4)])]))] [])]
def b2__law_best_of : List CS := [(.set 4 (.tup [(.int 0), (.int 1)])), (.for (.at 5) (.rng [(.var 0), (.int 0), (.neg (.int 1))]) b1__law_best_of), (.ite (.call "_law_below" [(.var 2), (.var 4)]) [(.par [2, 3] [(.var 4), (.int 1)])] [(.ite (.cmp .eq (.var 2) (.var 4)) [(.set 3 (.bin .add (.var 3) (.int 1)))] [])])]
def d__law_best_of : Fd := ⟨[false], 6, [(.par [2, 3] [(.tup [(.int 0), (.int 1)]), (.int 0)]), (.for (.at 1) (.seq (.call "_law_lots" [(.var 0)])) b2__law_best_of), (.ret [(.tup [(.var 2), (.var 3)])])]⟩
def i1_law : List CE := [(.call "_law_below" [(.ix (.var 7) (.var 10)), (.ix (.var 7) (.bin .add (.var 10) (.int 1)))])]
def c2_law : CE := (.var 10)
def b3_law : List CS := [(.ite (.chain .le .le (.int 1) (.var 5) (.var 3)) [(.set 9 (.call "chance_of_best" [(.var 3), (.conv .tuple (.rng [(.var 5), (.bin .add (.var 3) (.int 1))]))])), (.ite (.call "_law_below" [(.call "greatest_chance" [(.var 3)]), (.var 9)]) [(.ret [(.bl false)])] [])] [])]
def b4_law : List CS := [(.set 3 (.bin .add (.int 1) (.call "_law_draw" [(.bor 1), (.call "_law_pick" [(.bor 1), (.lst [(.int 9), (.int 30), (.int 60)])])]))), (.par [7, 8] [(.call "_law_behind" [(.var 3)]), (.call "_law_start" [(.var 3)])]), (.ite (.not (.call "_law_is" [(.tup [(.call "behind_chances" [(.var 3)]), (.call "best_start" [(.var 3)])]), (.tup [(.blt .tuple [(.var 7)]), (.var 8)])])) [(.ret [(.bl false)])] []), (.set 4 (.conv .tuple (.rng [(.var 8), (.bin .add (.var 3) (.int 1))]))), (.ite (.tor [(.cmp .ne (.call "greatest_chance" [(.var 3)]) (.call "chance_of_best" [(.var 3), (.var 4)])), (.isn (.call "first_flip" [(.var 3), (.var 4)]) true)]) [(.ret [(.bl false)])] []), (.ite (.tor [(.tand [(.cmp .gt (.var 3) (.int 1)), (.cmp .ne (.call "greatest_chance" [(.var 3)]) (.ix (.var 7) (.int 0)))]), (.tand [(.cmp .lt (.var 3) (.int 60)), (.call "_law_below" [(.call "greatest_chance" [(.var 3)]), (.call "greatest_chance" [(.bin .add (.var 3) (.int 1))])])])]) [(.ret [(.bl false)])] []), (.ite (.tor [(.cmp .ne (.comp [10] (.at 10) (.rng [(.bin .sub (.var 3) (.int 1))]) i1_law c2_law) (.lst [])), (.tand [(.cmp .gt (.var 3) (.int 2)), (.call "_law_below" [(.call "greatest_chance" [(.var 3)]), (.tup [(.int 1), (.int 3)])])])]) [(.ret [(.bl false)])] []), (.for (.at 5) (.seq (.tup [(.bin .sub (.var 8) (.int 1)), (.bin .add (.var 8) (.int 1)), (.int 1), (.var 3)])) b3_law), (.set 6 (.bin .add (.int 1) (.call "_law_draw" [(.bor 1), (.int 8)]))), (.ite (.not (.call "_law_is" [(.tup [(.call "greatest_chance" [(.var 6)]), (.call "best_lots_many" [(.var 6)])]), (.call "_law_best_of" [(.var 6)])])) [(.ret [(.bl false)])] [])]
def c5_law : CE := (.call "greatest_chance" [(.var 3)])
def c6_law : CE := (.call "best_start" [(.var 3)])
def d_law : Fd := ⟨[false], 11, [(.set 1 (.call "_law_pen" [(.var 0)])), (.for (.at 2) (.rng [(.int 3)]) b4_law), (.ite (.not (.call "_law_is" [(.blt .tuple [(.comp [3] (.at 3) (.rng [(.int 1), (.int 6)]) [] c5_law)]), (.tup [(.tup [(.int 1), (.int 1)]), (.tup [(.int 1), (.int 2)]), (.tup [(.int 1), (.int 2)]), (.tup [(.int 11), (.int 24)]), (.tup [(.int 13), (.int 30)])])])) [(.ret [(.bl false)])] []), (.ret [(.call "_law_is" [(.blt .tuple [(.comp [3] (.at 3) (.seq (.tup [(.int 1), (.int 2), (.int 3), (.int 4), (.int 5), (.int 6), (.int 7), (.int 8), (.int 10)])) [] c6_law)]), (.tup [(.int 1), (.int 1), (.int 2), (.int 2), (.int 3), (.int 3), (.int 3), (.int 4), (.int 4)])])])]⟩
def d_tb : String → Option Fd
  | "is_whole" => some d_is_whole
  | "as_tuples" => some d_as_tuples
  | "lowest" => some d_lowest
  | "added" => some d_added
  | "times" => some d_times
  | "is_less" => some d_is_less
  | "Flip.__init__" => some d_Flip___init__
  | "need_things" => some d_need_things
  | "known_places" => some d_known_places
  | "lot_chance_by" => some d_lot_chance_by
  | "chance_of_best" => some d_chance_of_best
  | "chances_behind" => some d_chances_behind
  | "behind_chances" => some d_behind_chances
  | "greatest_chance" => some d_greatest_chance
  | "best_start" => some d_best_start
  | "is_flip" => some d_is_flip
  | "first_flip" => some d_first_flip
  | "best_lots_many" => some d_best_lots_many
  | "_law_sum_of" => some d__law_sum_of
  | "_law_greater" => some d__law_greater
  | "_law_pen" => some d__law_pen
  | "_law_draw" => some d__law_draw
  | "_law_pick" => some d__law_pick
  | "_law_is" => some d__law_is
  | "_law_gcd" => some d__law_gcd
  | "_law_pair" => some d__law_pair
  | "_law_add" => some d__law_add
  | "_law_mul" => some d__law_mul
  | "_law_below" => some d__law_below
  | "_law_lots" => some d__law_lots
  | "_law_behind" => some d__law_behind
  | "_law_start" => some d__law_start
  | "_law_best_of" => some d__law_best_of
  | "law" => some d_law
  | _ => none
def d_gl : String → Option T
  | "MOST_THINGS" => some (.int 60)
  | _ => none
def FUEL : Nat := 20
/-! ### the text by places -/
def topS (i : Nat) : Stmt := PySem.Challenge.pw_whatfirst_k63_whole_best_starts.main.body.getD i (.Pass ⟨0, 0, 0, 0⟩)
abbrev s_is_whole : Stmt := topS 6
theorem sc_is_whole : FnScope ["value"] ["value"] (defScope s_is_whole) := ⟨rfl, rfl, rfl, by decide +kernel, rfl, by decide +kernel, by decide +kernel⟩
abbrev s_as_tuples : Stmt := topS 7
theorem sc_as_tuples : FnScope ["value", "one"] ["value"] (defScope s_as_tuples) := ⟨rfl, rfl, rfl, by decide +kernel, rfl, by decide +kernel, by decide +kernel⟩
abbrev s_lowest : Stmt := topS 9
theorem sc_lowest : FnScope ["top", "bottom", "common"] ["top", "bottom"] (defScope s_lowest) := ⟨rfl, rfl, rfl, by decide +kernel, rfl, by decide +kernel, by decide +kernel⟩
abbrev s_added : Stmt := topS 10
theorem sc_added : FnScope ["one", "other"] ["one", "other"] (defScope s_added) := ⟨rfl, rfl, rfl, by decide +kernel, rfl, by decide +kernel, by decide +kernel⟩
abbrev s_times : Stmt := topS 11
theorem sc_times : FnScope ["one", "other"] ["one", "other"] (defScope s_times) := ⟨rfl, rfl, rfl, by decide +kernel, rfl, by decide +kernel, by decide +kernel⟩
abbrev s_is_less : Stmt := topS 12
theorem sc_is_less : FnScope ["one", "other"] ["one", "other"] (defScope s_is_less) := ⟨rfl, rfl, rfl, by decide +kernel, rfl, by decide +kernel, by decide +kernel⟩
abbrev s_Flip___init__ : Stmt := inClass (topS 15) 0
theorem sc_Flip___init__ : FnScope ["self", "place"] ["self", "place"] (defScope s_Flip___init__) := ⟨rfl, rfl, rfl, by decide +kernel, rfl, by decide +kernel, by decide +kernel⟩
abbrev s_need_things : Stmt := topS 16
theorem sc_need_things : FnScope ["number"] ["number"] (defScope s_need_things) := ⟨rfl, rfl, rfl, by decide +kernel, rfl, by decide +kernel, by decide +kernel⟩
abbrev s_known_places : Stmt := topS 17
theorem sc_known_places : FnScope ["number", "lot", "known", "one", "other"] ["number", "lot"] (defScope s_known_places) := ⟨rfl, rfl, rfl, by decide +kernel, rfl, by decide +kernel, by decide +kernel⟩
abbrev s_lot_chance_by : Stmt := topS 18
theorem sc_lot_chance_by : FnScope ["number", "lot", "place", "found", "left"] ["number", "lot"] (defScope s_lot_chance_by) := ⟨rfl, rfl, rfl, by decide +kernel, rfl, by decide +kernel, by decide +kernel⟩
abbrev s_chance_of_best : Stmt := topS 19
theorem sc_chance_of_best : FnScope ["number", "lot", "known"] ["number", "lot"] (defScope s_chance_of_best) := ⟨rfl, rfl, rfl, by decide +kernel, rfl, by decide +kernel, by decide +kernel⟩
abbrev s_chances_behind : Stmt := topS 20
theorem sc_chances_behind : FnScope ["number", "found", "place", "best", "own", "behind"] ["number"] (defScope s_chances_behind) := ⟨rfl, rfl, rfl, by decide +kernel, rfl, by decide +kernel, by decide +kernel⟩
abbrev s_behind_chances : Stmt := topS 21
theorem sc_behind_chances : FnScope ["number"] ["number"] (defScope s_behind_chances) := ⟨rfl, rfl, rfl, by decide +kernel, rfl, by decide +kernel, by decide +kernel⟩
abbrev s_greatest_chance : Stmt := topS 22
theorem sc_greatest_chance : FnScope ["number"] ["number"] (defScope s_greatest_chance) := ⟨rfl, rfl, rfl, by decide +kernel, rfl, by decide +kernel, by decide +kernel⟩
abbrev s_best_start : Stmt := topS 23
theorem sc_best_start : FnScope ["number", "found", "place"] ["number"] (defScope s_best_start) := ⟨rfl, rfl, rfl, by decide +kernel, rfl, by decide +kernel, by decide +kernel⟩
abbrev s_is_flip : Stmt := topS 24
theorem sc_is_flip : FnScope ["number", "lot", "place", "behind", "own"] ["number", "lot", "place", "behind"] (defScope s_is_flip) := ⟨rfl, rfl, rfl, by decide +kernel, rfl, by decide +kernel, by decide +kernel⟩
abbrev s_first_flip : Stmt := topS 25
theorem sc_first_flip : FnScope ["number", "lot", "known", "behind", "place"] ["number", "lot"] (defScope s_first_flip) := ⟨rfl, rfl, rfl, by decide +kernel, rfl, by decide +kernel, by decide +kernel⟩
abbrev s_best_lots_many : Stmt := topS 26
theorem sc_best_lots_many : FnScope ["number", "place", "first", "with_one", "behind", "free"] ["number"] (defScope s_best_lots_many) := ⟨rfl, rfl, rfl, by decide +kernel, rfl, by decide +kernel, by decide +kernel⟩
abbrev s__law_sum_of : Stmt := topS 28
theorem sc__law_sum_of : FnScope ["rows", "found", "one"] ["rows"] (defScope s__law_sum_of) := ⟨rfl, rfl, rfl, by decide +kernel, rfl, by decide +kernel, by decide +kernel⟩
abbrev s__law_greater : Stmt := topS 29
theorem sc__law_greater : FnScope ["one", "other"] ["one", "other"] (defScope s__law_greater) := ⟨rfl, rfl, rfl, by decide +kernel, rfl, by decide +kernel, by decide +kernel⟩
abbrev s__law_pen : Stmt := topS 30
theorem sc__law_pen : FnScope ["script", "fold", "cell"] ["script"] (defScope s__law_pen) := ⟨rfl, rfl, rfl, by decide +kernel, rfl, by decide +kernel, by decide +kernel⟩
abbrev s__law_draw : Stmt := topS 31
theorem sc__law_draw : FnScope ["pen", "many", "blend", "cell", "digit"] ["pen", "many"] (defScope s__law_draw) := ⟨rfl, rfl, rfl, by decide +kernel, rfl, by decide +kernel, by decide +kernel⟩
abbrev s__law_pick : Stmt := topS 32
theorem sc__law_pick : FnScope ["pen", "some"] ["pen", "some"] (defScope s__law_pick) := ⟨rfl, rfl, rfl, by decide +kernel, rfl, by decide +kernel, by decide +kernel⟩
abbrev s__law_is : Stmt := topS 33
theorem sc__law_is : FnScope ["told", "due", "at"] ["told", "due"] (defScope s__law_is) := ⟨rfl, rfl, rfl, by decide +kernel, rfl, by decide +kernel, by decide +kernel⟩
abbrev s__law_gcd : Stmt := topS 34
theorem sc__law_gcd : FnScope ["one", "other"] ["one", "other"] (defScope s__law_gcd) := ⟨rfl, rfl, rfl, by decide +kernel, rfl, by decide +kernel, by decide +kernel⟩
abbrev s__law_pair : Stmt := topS 35
theorem sc__law_pair : FnScope ["top", "bottom", "common"] ["top", "bottom"] (defScope s__law_pair) := ⟨rfl, rfl, rfl, by decide +kernel, rfl, by decide +kernel, by decide +kernel⟩
abbrev s__law_add : Stmt := topS 36
theorem sc__law_add : FnScope ["one", "other"] ["one", "other"] (defScope s__law_add) := ⟨rfl, rfl, rfl, by decide +kernel, rfl, by decide +kernel, by decide +kernel⟩
abbrev s__law_mul : Stmt := topS 37
theorem sc__law_mul : FnScope ["one", "other"] ["one", "other"] (defScope s__law_mul) := ⟨rfl, rfl, rfl, by decide +kernel, rfl, by decide +kernel, by decide +kernel⟩
abbrev s__law_below : Stmt := topS 38
theorem sc__law_below : FnScope ["one", "other"] ["one", "other"] (defScope s__law_below) := ⟨rfl, rfl, rfl, by decide +kernel, rfl, by decide +kernel, by decide +kernel⟩
abbrev s__law_lots : Stmt := topS 39
theorem sc__law_lots : FnScope ["many", "found", "at", "lot"] ["many"] (defScope s__law_lots) := ⟨rfl, rfl, rfl, by decide +kernel, rfl, by decide +kernel, by decide +kernel⟩
abbrev s__law_behind : Stmt := topS 40
theorem sc__law_behind : FnScope ["number", "found", "place", "share", "later"] ["number"] (defScope s__law_behind) := ⟨rfl, rfl, rfl, by decide +kernel, rfl, by decide +kernel, by decide +kernel⟩
abbrev s__law_start : Stmt := topS 41
theorem sc__law_start : FnScope ["number", "start", "parts", "place"] ["number"] (defScope s__law_start) := ⟨rfl, rfl, rfl, by decide +kernel, rfl, by decide +kernel, by decide +kernel⟩
abbrev s__law_best_of : Stmt := topS 42
theorem sc__law_best_of : FnScope ["number", "lot", "best", "many", "found", "place"] ["number"] (defScope s__law_best_of) := ⟨rfl, rfl, rfl, by decide +kernel, rfl, by decide +kernel, by decide +kernel⟩
abbrev s_law : Stmt := topS 43
theorem sc_law : FnScope ["script", "pen", "lap", "number", "own", "other", "few", "behind", "start", "there", "at"] ["script"] (defScope s_law) := ⟨rfl, rfl, rfl, by decide +kernel, rfl, by decide +kernel, by decide +kernel⟩
def flds : List String := ["place"]
def cA (cs : List Addr) : String → Option Addr
  | "Flip" => cs[0]?
  | _ => none
section
variable {P : Program} {w : World} {K : PySem.W.Frag} {mg : Str → Option Value} {base : Heap}
structure Fx (K : PySem.W.Frag) (mg : Str → Option Value) (C_Flip a_is_whole a_as_tuples a_lowest a_added a_times a_is_less a_Flip___init__ a_need_things a_known_places a_lot_chance_by a_chance_of_best a_chances_behind a_behind_chances a_greatest_chance a_best_start a_is_flip a_first_flip a_best_lots_many a__law_sum_of a__law_greater a__law_pen a__law_draw a__law_pick a__law_is a__law_gcd a__law_pair a__law_add a__law_mul a__law_below a__law_lots a__law_behind a__law_start a__law_best_of a_law : Addr) (v_is_whole v_as_tuples v_lowest v_added v_times v_is_less v_Flip___init__ v_need_things v_known_places v_lot_chance_by v_chance_of_best v_chances_behind v_behind_chances v_greatest_chance v_best_start v_is_flip v_first_flip v_best_lots_many v__law_sum_of v__law_greater v__law_pen v__law_draw v__law_pick v__law_is v__law_gcd v__law_pair v__law_add v__law_mul v__law_below v__law_lots v__law_behind v__law_start v__law_best_of v_law : FuncData) : Prop where
  f_is_whole : Fun K "is_whole" "is_whole" s_is_whole a_is_whole v_is_whole
  b_is_whole : Binds K v_is_whole ["value"] []
  g_is_whole : mg "is_whole" = some (.ref a_is_whole)
  f_as_tuples : Fun K "as_tuples" "as_tuples" s_as_tuples a_as_tuples v_as_tuples
  b_as_tuples : Binds K v_as_tuples ["value"] []
  g_as_tuples : mg "as_tuples" = some (.ref a_as_tuples)
  f_lowest : Fun K "lowest" "lowest" s_lowest a_lowest v_lowest
  b_lowest : Binds K v_lowest ["top", "bottom"] []
  g_lowest : mg "lowest" = some (.ref a_lowest)
  f_added : Fun K "added" "added" s_added a_added v_added
  b_added : Binds K v_added ["one", "other"] []
  g_added : mg "added" = some (.ref a_added)
  f_times : Fun K "times" "times" s_times a_times v_times
  b_times : Binds K v_times ["one", "other"] []
  g_times : mg "times" = some (.ref a_times)
  f_is_less : Fun K "is_less" "is_less" s_is_less a_is_less v_is_less
  b_is_less : Binds K v_is_less ["one", "other"] []
  g_is_less : mg "is_less" = some (.ref a_is_less)
  f_Flip___init__ : Fun K "__init__" "Flip.__init__" s_Flip___init__ a_Flip___init__ v_Flip___init__
  b_Flip___init__ : Binds K v_Flip___init__ ["self", "place"] []
  f_need_things : Fun K "need_things" "need_things" s_need_things a_need_things v_need_things
  b_need_things : Binds K v_need_things ["number"] []
  g_need_things : mg "need_things" = some (.ref a_need_things)
  f_known_places : Fun K "known_places" "known_places" s_known_places a_known_places v_known_places
  b_known_places : Binds K v_known_places ["number", "lot"] []
  g_known_places : mg "known_places" = some (.ref a_known_places)
  f_lot_chance_by : Fun K "lot_chance_by" "lot_chance_by" s_lot_chance_by a_lot_chance_by v_lot_chance_by
  b_lot_chance_by : Binds K v_lot_chance_by ["number", "lot"] []
  g_lot_chance_by : mg "lot_chance_by" = some (.ref a_lot_chance_by)
  f_chance_of_best : Fun K "chance_of_best" "chance_of_best" s_chance_of_best a_chance_of_best v_chance_of_best
  b_chance_of_best : Binds K v_chance_of_best ["number", "lot"] []
  g_chance_of_best : mg "chance_of_best" = some (.ref a_chance_of_best)
  f_chances_behind : Fun K "chances_behind" "chances_behind" s_chances_behind a_chances_behind v_chances_behind
  b_chances_behind : Binds K v_chances_behind ["number"] []
  g_chances_behind : mg "chances_behind" = some (.ref a_chances_behind)
  f_behind_chances : Fun K "behind_chances" "behind_chances" s_behind_chances a_behind_chances v_behind_chances
  b_behind_chances : Binds K v_behind_chances ["number"] []
  g_behind_chances : mg "behind_chances" = some (.ref a_behind_chances)
  f_greatest_chance : Fun K "greatest_chance" "greatest_chance" s_greatest_chance a_greatest_chance v_greatest_chance
  b_greatest_chance : Binds K v_greatest_chance ["number"] []
  g_greatest_chance : mg "greatest_chance" = some (.ref a_greatest_chance)
  f_best_start : Fun K "best_start" "best_start" s_best_start a_best_start v_best_start
  b_best_start : Binds K v_best_start ["number"] []
  g_best_start : mg "best_start" = some (.ref a_best_start)
  f_is_flip : Fun K "is_flip" "is_flip" s_is_flip a_is_flip v_is_flip
  b_is_flip : Binds K v_is_flip ["number", "lot", "place", "behind"] []
  g_is_flip : mg "is_flip" = some (.ref a_is_flip)
  f_first_flip : Fun K "first_flip" "first_flip" s_first_flip a_first_flip v_first_flip
  b_first_flip : Binds K v_first_flip ["number", "lot"] []
  g_first_flip : mg "first_flip" = some (.ref a_first_flip)
  f_best_lots_many : Fun K "best_lots_many" "best_lots_many" s_best_lots_many a_best_lots_many v_best_lots_many
  b_best_lots_many : Binds K v_best_lots_many ["number"] []
  g_best_lots_many : mg "best_lots_many" = some (.ref a_best_lots_many)
  f__law_sum_of : Fun K "_law_sum_of" "_law_sum_of" s__law_sum_of a__law_sum_of v__law_sum_of
  b__law_sum_of : Binds K v__law_sum_of ["rows"] []
  g__law_sum_of : mg "_law_sum_of" = some (.ref a__law_sum_of)
  f__law_greater : Fun K "_law_greater" "_law_greater" s__law_greater a__law_greater v__law_greater
  b__law_greater : Binds K v__law_greater ["one", "other"] []
  g__law_greater : mg "_law_greater" = some (.ref a__law_greater)
  f__law_pen : Fun K "_law_pen" "_law_pen" s__law_pen a__law_pen v__law_pen
  b__law_pen : Binds K v__law_pen ["script"] []
  g__law_pen : mg "_law_pen" = some (.ref a__law_pen)
  f__law_draw : Fun K "_law_draw" "_law_draw" s__law_draw a__law_draw v__law_draw
  b__law_draw : Binds K v__law_draw ["pen", "many"] []
  g__law_draw : mg "_law_draw" = some (.ref a__law_draw)
  f__law_pick : Fun K "_law_pick" "_law_pick" s__law_pick a__law_pick v__law_pick
  b__law_pick : Binds K v__law_pick ["pen", "some"] []
  g__law_pick : mg "_law_pick" = some (.ref a__law_pick)
  f__law_is : Fun K "_law_is" "_law_is" s__law_is a__law_is v__law_is
  b__law_is : Binds K v__law_is ["told", "due"] []
  g__law_is : mg "_law_is" = some (.ref a__law_is)
  f__law_gcd : Fun K "_law_gcd" "_law_gcd" s__law_gcd a__law_gcd v__law_gcd
  b__law_gcd : Binds K v__law_gcd ["one", "other"] []
  g__law_gcd : mg "_law_gcd" = some (.ref a__law_gcd)
  f__law_pair : Fun K "_law_pair" "_law_pair" s__law_pair a__law_pair v__law_pair
  b__law_pair : Binds K v__law_pair ["top", "bottom"] []
  g__law_pair : mg "_law_pair" = some (.ref a__law_pair)
  f__law_add : Fun K "_law_add" "_law_add" s__law_add a__law_add v__law_add
  b__law_add : Binds K v__law_add ["one", "other"] []
  g__law_add : mg "_law_add" = some (.ref a__law_add)
  f__law_mul : Fun K "_law_mul" "_law_mul" s__law_mul a__law_mul v__law_mul
  b__law_mul : Binds K v__law_mul ["one", "other"] []
  g__law_mul : mg "_law_mul" = some (.ref a__law_mul)
  f__law_below : Fun K "_law_below" "_law_below" s__law_below a__law_below v__law_below
  b__law_below : Binds K v__law_below ["one", "other"] []
  g__law_below : mg "_law_below" = some (.ref a__law_below)
  f__law_lots : Fun K "_law_lots" "_law_lots" s__law_lots a__law_lots v__law_lots
  b__law_lots : Binds K v__law_lots ["many"] []
  g__law_lots : mg "_law_lots" = some (.ref a__law_lots)
  f__law_behind : Fun K "_law_behind" "_law_behind" s__law_behind a__law_behind v__law_behind
  b__law_behind : Binds K v__law_behind ["number"] []
  g__law_behind : mg "_law_behind" = some (.ref a__law_behind)
  f__law_start : Fun K "_law_start" "_law_start" s__law_start a__law_start v__law_start
  b__law_start : Binds K v__law_start ["number"] []
  g__law_start : mg "_law_start" = some (.ref a__law_start)
  f__law_best_of : Fun K "_law_best_of" "_law_best_of" s__law_best_of a__law_best_of v__law_best_of
  b__law_best_of : Binds K v__law_best_of ["number"] []
  g__law_best_of : mg "_law_best_of" = some (.ref a__law_best_of)
  f_law : Fun K "law" "law" s_law a_law v_law
  b_law : Binds K v_law ["script"] []
  g_law : mg "law" = some (.ref a_law)
  gc_Flip : mg "Flip" = some (.ref C_Flip)
  m_Flip : Mk K C_Flip a_Flip___init__
  z_abs : mg "abs" = none
  z_all : mg "all" = none
  z_bool : mg "bool" = none
  z_int : mg "int" = none
  z_isinstance : mg "isinstance" = none
  z_len : mg "len" = none
  z_list : mg "list" = none
  z_range : mg "range" = none
  z_sorted : mg "sorted" = none
  z_str : mg "str" = none
  z_tuple : mg "tuple" = none
  z_zip : mg "zip" = none
  c_MOST_THINGS : ∃ t, mg "MOST_THINGS" = some (.int 60 t)
  y_gcd : mg "gcd" = some (.builtin "math.gcd")
  cls : Clss ⟨K, cA [C_Flip]⟩ flds
structure AllF (P : Program) (w : World) (K : PySem.W.Frag) (mg : Str → Option Value) (base : Heap) (k : Nat) (C_Flip a_is_whole a_as_tuples a_lowest a_added a_times a_is_less a_Flip___init__ a_need_things a_known_places a_lot_chance_by a_chance_of_best a_chances_behind a_behind_chances a_greatest_chance a_best_start a_is_flip a_first_flip a_best_lots_many a__law_sum_of a__law_greater a__law_pen a__law_draw a__law_pick a__law_is a__law_gcd a__law_pair a__law_add a__law_mul a__law_below a__law_lots a__law_behind a__law_start a__law_best_of a_law : Addr) (v_is_whole v_as_tuples v_lowest v_added v_times v_is_less v_Flip___init__ v_need_things v_known_places v_lot_chance_by v_chance_of_best v_chances_behind v_behind_chances v_greatest_chance v_best_start v_is_flip v_first_flip v_best_lots_many v__law_sum_of v__law_greater v__law_pen v__law_draw v__law_pick v__law_is v__law_gcd v__law_pair v__law_add v__law_mul v__law_below v__law_lots v__law_behind v__law_start v__law_best_of v_law : FuncData) : Prop where
  o_is_whole : FnOk P w K mg base CX0 (2 * k) a_is_whole v_is_whole ["value"] (spF ⟨K, cA [C_Flip]⟩ (evF d_gl d_tb k) "is_whole" [false])
  o_as_tuples : FnOk P w K mg base CX0 (2 * k) a_as_tuples v_as_tuples ["value"] (spF ⟨K, cA [C_Flip]⟩ (evF d_gl d_tb k) "as_tuples" [false])
  o_lowest : FnOk P w K mg base CX0 (2 * k) a_lowest v_lowest ["top", "bottom"] (spF ⟨K, cA [C_Flip]⟩ (evF d_gl d_tb k) "lowest" [false, false])
  o_added : FnOk P w K mg base CX0 (2 * k) a_added v_added ["one", "other"] (spF ⟨K, cA [C_Flip]⟩ (evF d_gl d_tb k) "added" [false, false])
  o_times : FnOk P w K mg base CX0 (2 * k) a_times v_times ["one", "other"] (spF ⟨K, cA [C_Flip]⟩ (evF d_gl d_tb k) "times" [false, false])
  o_is_less : FnOk P w K mg base CX0 (2 * k) a_is_less v_is_less ["one", "other"] (spF ⟨K, cA [C_Flip]⟩ (evF d_gl d_tb k) "is_less" [false, false])
  o_Flip___init__ : FnOk P w K mg base CX0 (2 * k) a_Flip___init__ v_Flip___init__ ["self", "place"] (spF ⟨K, cA [C_Flip]⟩ (evF d_gl d_tb k) "Flip.__init__" [true, false])
  o_need_things : FnOk P w K mg base CX0 (2 * k) a_need_things v_need_things ["number"] (spF ⟨K, cA [C_Flip]⟩ (evF d_gl d_tb k) "need_things" [false])
  o_known_places : FnOk P w K mg base CX0 (2 * k) a_known_places v_known_places ["number", "lot"] (spF ⟨K, cA [C_Flip]⟩ (evF d_gl d_tb k) "known_places" [false, false])
  o_lot_chance_by : FnOk P w K mg base CX0 (2 * k) a_lot_chance_by v_lot_chance_by ["number", "lot"] (spF ⟨K, cA [C_Flip]⟩ (evF d_gl d_tb k) "lot_chance_by" [false, false])
  o_chance_of_best : FnOk P w K mg base CX0 (2 * k) a_chance_of_best v_chance_of_best ["number", "lot"] (spF ⟨K, cA [C_Flip]⟩ (evF d_gl d_tb k) "chance_of_best" [false, false])
  o_chances_behind : FnOk P w K mg base CX0 (2 * k) a_chances_behind v_chances_behind ["number"] (spF ⟨K, cA [C_Flip]⟩ (evF d_gl d_tb k) "chances_behind" [false])
  o_behind_chances : FnOk P w K mg base CX0 (2 * k) a_behind_chances v_behind_chances ["number"] (spF ⟨K, cA [C_Flip]⟩ (evF d_gl d_tb k) "behind_chances" [false])
  o_greatest_chance : FnOk P w K mg base CX0 (2 * k) a_greatest_chance v_greatest_chance ["number"] (spF ⟨K, cA [C_Flip]⟩ (evF d_gl d_tb k) "greatest_chance" [false])
  o_best_start : FnOk P w K mg base CX0 (2 * k) a_best_start v_best_start ["number"] (spF ⟨K, cA [C_Flip]⟩ (evF d_gl d_tb k) "best_start" [false])
  o_is_flip : FnOk P w K mg base CX0 (2 * k) a_is_flip v_is_flip ["number", "lot", "place", "behind"] (spF ⟨K, cA [C_Flip]⟩ (evF d_gl d_tb k) "is_flip" [false, false, false, false])
  o_first_flip : FnOk P w K mg base CX0 (2 * k) a_first_flip v_first_flip ["number", "lot"] (spF ⟨K, cA [C_Flip]⟩ (evF d_gl d_tb k) "first_flip" [false, false])
  o_best_lots_many : FnOk P w K mg base CX0 (2 * k) a_best_lots_many v_best_lots_many ["number"] (spF ⟨K, cA [C_Flip]⟩ (evF d_gl d_tb k) "best_lots_many" [false])
  o__law_sum_of : FnOk P w K mg base CX0 (2 * k) a__law_sum_of v__law_sum_of ["rows"] (spF ⟨K, cA [C_Flip]⟩ (evF d_gl d_tb k) "_law_sum_of" [false])
  o__law_greater : FnOk P w K mg base CX0 (2 * k) a__law_greater v__law_greater ["one", "other"] (spF ⟨K, cA [C_Flip]⟩ (evF d_gl d_tb k) "_law_greater" [false, false])
  o__law_pen : FnOk P w K mg base CX0 (2 * k) a__law_pen v__law_pen ["script"] (spF ⟨K, cA [C_Flip]⟩ (evF d_gl d_tb k) "_law_pen" [false])
  o__law_draw : FnOk P w K mg base CX0 (2 * k) a__law_draw v__law_draw ["pen", "many"] (spF ⟨K, cA [C_Flip]⟩ (evF d_gl d_tb k) "_law_draw" [true, false])
  o__law_pick : FnOk P w K mg base CX0 (2 * k) a__law_pick v__law_pick ["pen", "some"] (spF ⟨K, cA [C_Flip]⟩ (evF d_gl d_tb k) "_law_pick" [true, false])
  o__law_is : FnOk P w K mg base CX0 (2 * k) a__law_is v__law_is ["told", "due"] (spF ⟨K, cA [C_Flip]⟩ (evF d_gl d_tb k) "_law_is" [false, false])
  o__law_gcd : FnOk P w K mg base CX0 (2 * k) a__law_gcd v__law_gcd ["one", "other"] (spF ⟨K, cA [C_Flip]⟩ (evF d_gl d_tb k) "_law_gcd" [false, false])
  o__law_pair : FnOk P w K mg base CX0 (2 * k) a__law_pair v__law_pair ["top", "bottom"] (spF ⟨K, cA [C_Flip]⟩ (evF d_gl d_tb k) "_law_pair" [false, false])
  o__law_add : FnOk P w K mg base CX0 (2 * k) a__law_add v__law_add ["one", "other"] (spF ⟨K, cA [C_Flip]⟩ (evF d_gl d_tb k) "_law_add" [false, false])
  o__law_mul : FnOk P w K mg base CX0 (2 * k) a__law_mul v__law_mul ["one", "other"] (spF ⟨K, cA [C_Flip]⟩ (evF d_gl d_tb k) "_law_mul" [false, false])
  o__law_below : FnOk P w K mg base CX0 (2 * k) a__law_below v__law_below ["one", "other"] (spF ⟨K, cA [C_Flip]⟩ (evF d_gl d_tb k) "_law_below" [false, false])
  o__law_lots : FnOk P w K mg base CX0 (2 * k) a__law_lots v__law_lots ["many"] (spF ⟨K, cA [C_Flip]⟩ (evF d_gl d_tb k) "_law_lots" [false])
  o__law_behind : FnOk P w K mg base CX0 (2 * k) a__law_behind v__law_behind ["number"] (spF ⟨K, cA [C_Flip]⟩ (evF d_gl d_tb k) "_law_behind" [false])
  o__law_start : FnOk P w K mg base CX0 (2 * k) a__law_start v__law_start ["number"] (spF ⟨K, cA [C_Flip]⟩ (evF d_gl d_tb k) "_law_start" [false])
  o__law_best_of : FnOk P w K mg base CX0 (2 * k) a__law_best_of v__law_best_of ["number"] (spF ⟨K, cA [C_Flip]⟩ (evF d_gl d_tb k) "_law_best_of" [false])
  o_law : FnOk P w K mg base CX0 (2 * k) a_law v_law ["script"] (spF ⟨K, cA [C_Flip]⟩ (evF d_gl d_tb k) "law" [false])
variable {C_Flip a_is_whole a_as_tuples a_lowest a_added a_times a_is_less a_Flip___init__ a_need_things a_known_places a_lot_chance_by a_chance_of_best a_chances_behind a_behind_chances a_greatest_chance a_best_start a_is_flip a_first_flip a_best_lots_many a__law_sum_of a__law_greater a__law_pen a__law_draw a__law_pick a__law_is a__law_gcd a__law_pair a__law_add a__law_mul a__law_below a__law_lots a__law_behind a__law_start a__law_best_of a_law : Addr} {v_is_whole v_as_tuples v_lowest v_added v_times v_is_less v_Flip___init__ v_need_things v_known_places v_lot_chance_by v_chance_of_best v_chances_behind v_behind_chances v_greatest_chance v_best_start v_is_flip v_first_flip v_best_lots_many v__law_sum_of v__law_greater v__law_pen v__law_draw v__law_pick v__law_is v__law_gcd v__law_pair v__law_add v__law_mul v__law_below v__law_lots v__law_behind v__law_start v__law_best_of v_law : FuncData} {k : Nat}
theorem ok_is_whole (Z : Fx K mg C_Flip a_is_whole a_as_tuples a_lowest a_added a_times a_is_less a_Flip___init__ a_need_things a_known_places a_lot_chance_by a_chance_of_best a_chances_behind a_behind_chances a_greatest_chance a_best_start a_is_flip a_first_flip a_best_lots_many a__law_sum_of a__law_greater a__law_pen a__law_draw a__law_pick a__law_is a__law_gcd a__law_pair a__law_add a__law_mul a__law_below a__law_lots a__law_behind a__law_start a__law_best_of a_law v_is_whole v_as_tuples v_lowest v_added v_times v_is_less v_Flip___init__ v_need_things v_known_places v_lot_chance_by v_chance_of_best v_chances_behind v_behind_chances v_greatest_chance v_best_start v_is_flip v_first_flip v_best_lots_many v__law_sum_of v__law_greater v__law_pen v__law_draw v__law_pick v__law_is v__law_gcd v__law_pair v__law_add v__law_mul v__law_below v__law_lots v__law_behind v__law_start v__law_best_of v_law) (R : AllF P w K mg base k C_Flip a_is_whole a_as_tuples a_lowest a_added a_times a_is_less a_Flip___init__ a_need_things a_known_places a_lot_chance_by a_chance_of_best a_chances_behind a_behind_chances a_greatest_chance a_best_start a_is_flip a_first_flip a_best_lots_many a__law_sum_of a__law_greater a__law_pen a__law_draw a__law_pick a__law_is a__law_gcd a__law_pair a__law_add a__law_mul a__law_below a__law_lots a__law_behind a__law_start a__law_best_of a_law v_is_whole v_as_tuples v_lowest v_added v_times v_is_less v_Flip___init__ v_need_things v_known_places v_lot_chance_by v_chance_of_best v_chances_behind v_behind_chances v_greatest_chance v_best_start v_is_flip v_first_flip v_best_lots_many v__law_sum_of v__law_greater v__law_pen v__law_draw v__law_pick v__law_is v__law_gcd v__law_pair v__law_add v__law_mul v__law_below v__law_lots v__law_behind v__law_start v__law_best_of v_law) : FnOk P w K mg base CX0 (2 * (k + 1)) a_is_whole v_is_whole ["value"] (spF ⟨K, cA [C_Flip]⟩ (evF d_gl d_tb (k + 1)) "is_whole" [false]) :=
  Z.f_is_whole.ok sc_is_whole (fun vs H Q E h => sp_len rfl h) fun cdv A outer s H vs Q E hr h => ⟨_, ((ss_cons (sm_ret (sd_and (pe_andC (isa1 rfl Z.cls (by rfl) Z.z_isinstance rfl rfl rfl (sd_var (pv 0)) (ty_int (by rfl) Z.z_int)) (pe_and1 (sd_not rfl (isa1 rfl Z.cls (by rfl) Z.z_isinstance rfl rfl rfl (sd_var (pv 0)) (ty_bool (by rfl) Z.z_bool)))))))
  ss_nil) : PSs _ (defBody s_is_whole) (tSs ⟨K, cA [C_Flip]⟩ d_gl (evF d_gl d_tb k) d_is_whole.body)), fin_of h rfl rfl rfl⟩
theorem ok_as_tuples (Z : Fx K mg C_Flip a_is_whole a_as_tuples a_lowest a_added a_times a_is_less a_Flip___init__ a_need_things a_known_places a_lot_chance_by a_chance_of_best a_chances_behind a_behind_chances a_greatest_chance a_best_start a_is_flip a_first_flip a_best_lots_many a__law_sum_of a__law_greater a__law_pen a__law_draw a__law_pick a__law_is a__law_gcd a__law_pair a__law_add a__law_mul a__law_below a__law_lots a__law_behind a__law_start a__law_best_of a_law v_is_whole v_as_tuples v_lowest v_added v_times v_is_less v_Flip___init__ v_need_things v_known_places v_lot_chance_by v_chance_of_best v_chances_behind v_behind_chances v_greatest_chance v_best_start v_is_flip v_first_flip v_best_lots_many v__law_sum_of v__law_greater v__law_pen v__law_draw v__law_pick v__law_is v__law_gcd v__law_pair v__law_add v__law_mul v__law_below v__law_lots v__law_behind v__law_start v__law_best_of v_law) (R : AllF P w K mg base k C_Flip a_is_whole a_as_tuples a_lowest a_added a_times a_is_less a_Flip___init__ a_need_things a_known_places a_lot_chance_by a_chance_of_best a_chances_behind a_behind_chances a_greatest_chance a_best_start a_is_flip a_first_flip a_best_lots_many a__law_sum_of a__law_greater a__law_pen a__law_draw a__law_pick a__law_is a__law_gcd a__law_pair a__law_add a__law_mul a__law_below a__law_lots a__law_behind a__law_start a__law_best_of a_law v_is_whole v_as_tuples v_lowest v_added v_times v_is_less v_Flip___init__ v_need_things v_known_places v_lot_chance_by v_chance_of_best v_chances_behind v_behind_chances v_greatest_chance v_best_start v_is_flip v_first_flip v_best_lots_many v__law_sum_of v__law_greater v__law_pen v__law_draw v__law_pick v__law_is v__law_gcd v__law_pair v__law_add v__law_mul v__law_below v__law_lots v__law_behind v__law_start v__law_best_of v_law) : FnOk P w K mg base CX0 (2 * (k + 1)) a_as_tuples v_as_tuples ["value"] (spF ⟨K, cA [C_Flip]⟩ (evF d_gl d_tb (k + 1)) "as_tuples" [false]) :=
  Z.f_as_tuples.ok sc_as_tuples (fun vs H Q E h => sp_len rfl h) fun cdv A outer s H vs Q E hr h => ⟨_, ((ss_cons (sm_if (st_plain rfl rfl (isaT rfl Z.cls (by rfl) Z.z_isinstance rfl (by decide) (sd_var (pv 0)) (.cons rfl (ty_list (by rfl) Z.z_list) (.cons rfl (ty_tuple (by rfl) Z.z_tuple) .nil)))) (ss_cons (sm_ret (fn1 (b := .tuple) rfl rfl rfl (u64 hr) (by rfl) Z.z_tuple rfl (sd_comp rfl sc_as_tuples.nd ⟨by decide, (it_seq rfl (sd_var (pv 0))), ⟨[("one", 1)], rfl, blk_mk rfl⟩, fun _ _ _ _ _ => (tg_at (pg_name (i := 1) sc_as_tuples.nd rfl (by first | exact .inl rfl | exact .inr rfl))), fun _ _ _ _ _ => pts_nil', fun _ _ _ _ _ => (Sd.kept (cl_any (CXX := CX0) (P := P) (w := w) R.o_as_tuples (hr2 hr) (by rfl) Z.g_as_tuples Z.f_as_tuples.kp Z.b_as_tuples (by decide +kernel) rfl rfl rfl (pa_args_val rfl rfl (sd_var (pv 1)) pa_args_nil))), fun _ => rfl⟩)))
  ss_nil) ss_nil)
  (ss_cons (sm_ret (sd_var (pv 0)))
  ss_nil)) : PSs _ (defBody s_as_tuples) (tSs ⟨K, cA [C_Flip]⟩ d_gl (evF d_gl d_tb k) d_as_tuples.body)), fin_of h rfl rfl rfl⟩
theorem ok_lowest (Z : Fx K mg C_Flip a_is_whole a_as_tuples a_lowest a_added a_times a_is_less a_Flip___init__ a_need_things a_known_places a_lot_chance_by a_chance_of_best a_chances_behind a_behind_chances a_greatest_chance a_best_start a_is_flip a_first_flip a_best_lots_many a__law_sum_of a__law_greater a__law_pen a__law_draw a__law_pick a__law_is a__law_gcd a__law_pair a__law_add a__law_mul a__law_below a__law_lots a__law_behind a__law_start a__law_best_of a_law v_is_whole v_as_tuples v_lowest v_added v_times v_is_less v_Flip___init__ v_need_things v_known_places v_lot_chance_by v_chance_of_best v_chances_behind v_behind_chances v_greatest_chance v_best_start v_is_flip v_first_flip v_best_lots_many v__law_sum_of v__law_greater v__law_pen v__law_draw v__law_pick v__law_is v__law_gcd v__law_pair v__law_add v__law_mul v__law_below v__law_lots v__law_behind v__law_start v__law_best_of v_law) (R : AllF P w K mg base k C_Flip a_is_whole a_as_tuples a_lowest a_added a_times a_is_less a_Flip___init__ a_need_things a_known_places a_lot_chance_by a_chance_of_best a_chances_behind a_behind_chances a_greatest_chance a_best_start a_is_flip a_first_flip a_best_lots_many a__law_sum_of a__law_greater a__law_pen a__law_draw a__law_pick a__law_is a__law_gcd a__law_pair a__law_add a__law_mul a__law_below a__law_lots a__law_behind a__law_start a__law_best_of a_law v_is_whole v_as_tuples v_lowest v_added v_times v_is_less v_Flip___init__ v_need_things v_known_places v_lot_chance_by v_chance_of_best v_chances_behind v_behind_chances v_greatest_chance v_best_start v_is_flip v_first_flip v_best_lots_many v__law_sum_of v__law_greater v__law_pen v__law_draw v__law_pick v__law_is v__law_gcd v__law_pair v__law_add v__law_mul v__law_below v__law_lots v__law_behind v__law_start v__law_best_of v_law) : FnOk P w K mg base CX0 (2 * (k + 1)) a_lowest v_lowest ["top", "bottom"] (spF ⟨K, cA [C_Flip]⟩ (evF d_gl d_tb (k + 1)) "lowest" [false, false]) :=
  Z.f_lowest.ok sc_lowest (fun vs H Q E h => sp_len rfl h) fun cdv A outer s H vs Q E hr h => ⟨_, ((ss_cons (sm_set (set_of (fn_gcd rfl rfl (u64 hr) (by rfl) Z.y_gcd rfl rfl rfl (sd_var (pv 0)) (sd_var (pv 1))) fun h => ps_set (i := 2) sc_lowest.nd rfl (by first | exact .inl rfl | exact .inr rfl) h))
  (ss_cons (sm_ret (sd_tup (pa_items_cons rfl (fun _ z => nomatch z) (sd_bin (o := .fdiv) rfl (sd_var (pv 0)) (sd_var (pv 2))) (pa_items_cons rfl (fun _ z => nomatch z) (sd_bin (o := .fdiv) rfl (sd_var (pv 1)) (sd_var (pv 2))) pa_items_nil))))
  ss_nil)) : PSs _ (defBody s_lowest) (tSs ⟨K, cA [C_Flip]⟩ d_gl (evF d_gl d_tb k) d_lowest.body)), fin_of h rfl rfl rfl⟩
theorem ok_added (Z : Fx K mg C_Flip a_is_whole a_as_tuples a_lowest a_added a_times a_is_less a_Flip___init__ a_need_things a_known_places a_lot_chance_by a_chance_of_best a_chances_behind a_behind_chances a_greatest_chance a_best_start a_is_flip a_first_flip a_best_lots_many a__law_sum_of a__law_greater a__law_pen a__law_draw a__law_pick a__law_is a__law_gcd a__law_pair a__law_add a__law_mul a__law_below a__law_lots a__law_behind a__law_start a__law_best_of a_law v_is_whole v_as_tuples v_lowest v_added v_times v_is_less v_Flip___init__ v_need_things v_known_places v_lot_chance_by v_chance_of_best v_chances_behind v_behind_chances v_greatest_chance v_best_start v_is_flip v_first_flip v_best_lots_many v__law_sum_of v__law_greater v__law_pen v__law_draw v__law_pick v__law_is v__law_gcd v__law_pair v__law_add v__law_mul v__law_below v__law_lots v__law_behind v__law_start v__law_best_of v_law) (R : AllF P w K mg base k C_Flip a_is_whole a_as_tuples a_lowest a_added a_times a_is_less a_Flip___init__ a_need_things a_known_places a_lot_chance_by a_chance_of_best a_chances_behind a_behind_chances a_greatest_chance a_best_start a_is_flip a_first_flip a_best_lots_many a__law_sum_of a__law_greater a__law_pen a__law_draw a__law_pick a__law_is a__law_gcd a__law_pair a__law_add a__law_mul a__law_below a__law_lots a__law_behind a__law_start a__law_best_of a_law v_is_whole v_as_tuples v_lowest v_added v_times v_is_less v_Flip___init__ v_need_things v_known_places v_lot_chance_by v_chance_of_best v_chances_behind v_behind_chances v_greatest_chance v_best_start v_is_flip v_first_flip v_best_lots_many v__law_sum_of v__law_greater v__law_pen v__law_draw v__law_pick v__law_is v__law_gcd v__law_pair v__law_add v__law_mul v__law_below v__law_lots v__law_behind v__law_start v__law_best_of v_law) : FnOk P w K mg base CX0 (2 * (k + 1)) a_added v_added ["one", "other"] (spF ⟨K, cA [C_Flip]⟩ (evF d_gl d_tb (k + 1)) "added" [false, false]) :=
  Z.f_added.ok sc_added (fun vs H Q E h => sp_len rfl h) fun cdv A outer s H vs Q E hr h => ⟨_, ((ss_cons (sm_ret (cl_any (CXX := CX0) (P := P) (w := w) R.o_lowest (hr2 hr) (by rfl) Z.g_lowest Z.f_lowest.kp Z.b_lowest (by decide +kernel) rfl rfl rfl (pa_args_val rfl rfl (sd_bin (o := .add) rfl (sd_bin (o := .mul) rfl (sd_ix rfl (u65 hr) rfl (sd_var (pv 0)) sd_int) (sd_ix rfl (u65 hr) rfl (sd_var (pv 1)) sd_int)) (sd_bin (o := .mul) rfl (sd_ix rfl (u65 hr) rfl (sd_var (pv 1)) sd_int) (sd_ix rfl (u65 hr) rfl (sd_var (pv 0)) sd_int))) (pa_args_val rfl rfl (sd_bin (o := .mul) rfl (sd_ix rfl (u65 hr) rfl (sd_var (pv 0)) sd_int) (sd_ix rfl (u65 hr) rfl (sd_var (pv 1)) sd_int)) pa_args_nil))))
  ss_nil) : PSs _ (defBody s_added) (tSs ⟨K, cA [C_Flip]⟩ d_gl (evF d_gl d_tb k) d_added.body)), fin_of h rfl rfl rfl⟩
theorem ok_times (Z : Fx K mg C_Flip a_is_whole a_as_tuples a_lowest a_added a_times a_is_less a_Flip___init__ a_need_things a_known_places a_lot_chance_by a_chance_of_best a_chances_behind a_behind_chances a_greatest_chance a_best_start a_is_flip a_first_flip a_best_lots_many a__law_sum_of a__law_greater a__law_pen a__law_draw a__law_pick a__law_is a__law_gcd a__law_pair a__law_add a__law_mul a__law_below a__law_lots a__law_behind a__law_start a__law_best_of a_law v_is_whole v_as_tuples v_lowest v_added v_times v_is_less v_Flip___init__ v_need_things v_known_places v_lot_chance_by v_chance_of_best v_chances_behind v_behind_chances v_greatest_chance v_best_start v_is_flip v_first_flip v_best_lots_many v__law_sum_of v__law_greater v__law_pen v__law_draw v__law_pick v__law_is v__law_gcd v__law_pair v__law_add v__law_mul v__law_below v__law_lots v__law_behind v__law_start v__law_best_of v_law) (R : AllF P w K mg base k C_Flip a_is_whole a_as_tuples a_lowest a_added a_times a_is_less a_Flip___init__ a_need_things a_known_places a_lot_chance_by a_chance_of_best a_chances_behind a_behind_chances a_greatest_chance a_best_start a_is_flip a_first_flip a_best_lots_many a__law_sum_of a__law_greater a__law_pen a__law_draw a__law_pick a__law_is a__law_gcd a__law_pair a__law_add a__law_mul a__law_below a__law_lots a__law_behind a__law_start a__law_best_of a_law v_is_whole v_as_tuples v_lowest v_added v_times v_is_less v_Flip___init__ v_need_things v_known_places v_lot_chance_by v_chance_of_best v_chances_behind v_behind_chances v_greatest_chance v_best_start v_is_flip v_first_flip v_best_lots_many v__law_sum_of v__law_greater v__law_pen v__law_draw v__law_pick v__law_is v__law_gcd v__law_pair v__law_add v__law_mul v__law_below v__law_lots v__law_behind v__law_start v__law_best_of v_law) : FnOk P w K mg base CX0 (2 * (k + 1)) a_times v_times ["one", "other"] (spF ⟨K, cA [C_Flip]⟩ (evF d_gl d_tb (k + 1)) "times" [false, false]) :=
  Z.f_times.ok sc_times (fun vs H Q E h => sp_len rfl h) fun cdv A outer s H vs Q E hr h => ⟨_, ((ss_cons (sm_ret (cl_any (CXX := CX0) (P := P) (w := w) R.o_lowest (hr2 hr) (by rfl) Z.g_lowest Z.f_lowest.kp Z.b_lowest (by decide +kernel) rfl rfl rfl (pa_args_val rfl rfl (sd_bin (o := .mul) rfl (sd_ix rfl (u65 hr) rfl (sd_var (pv 0)) sd_int) (sd_ix rfl (u65 hr) rfl (sd_var (pv 1)) sd_int)) (pa_args_val rfl rfl (sd_bin (o := .mul) rfl (sd_ix rfl (u65 hr) rfl (sd_var (pv 0)) sd_int) (sd_ix rfl (u65 hr) rfl (sd_var (pv 1)) sd_int)) pa_args_nil))))
  ss_nil) : PSs _ (defBody s_times) (tSs ⟨K, cA [C_Flip]⟩ d_gl (evF d_gl d_tb k) d_times.body)), fin_of h rfl rfl rfl⟩
theorem ok_is_less (Z : Fx K mg C_Flip a_is_whole a_as_tuples a_lowest a_added a_times a_is_less a_Flip___init__ a_need_things a_known_places a_lot_chance_by a_chance_of_best a_chances_behind a_behind_chances a_greatest_chance a_best_start a_is_flip a_first_flip a_best_lots_many a__law_sum_of a__law_greater a__law_pen a__law_draw a__law_pick a__law_is a__law_gcd a__law_pair a__law_add a__law_mul a__law_below a__law_lots a__law_behind a__law_start a__law_best_of a_law v_is_whole v_as_tuples v_lowest v_added v_times v_is_less v_Flip___init__ v_need_things v_known_places v_lot_chance_by v_chance_of_best v_chances_behind v_behind_chances v_greatest_chance v_best_start v_is_flip v_first_flip v_best_lots_many v__law_sum_of v__law_greater v__law_pen v__law_draw v__law_pick v__law_is v__law_gcd v__law_pair v__law_add v__law_mul v__law_below v__law_lots v__law_behind v__law_start v__law_best_of v_law) (R : AllF P w K mg base k C_Flip a_is_whole a_as_tuples a_lowest a_added a_times a_is_less a_Flip___init__ a_need_things a_known_places a_lot_chance_by a_chance_of_best a_chances_behind a_behind_chances a_greatest_chance a_best_start a_is_flip a_first_flip a_best_lots_many a__law_sum_of a__law_greater a__law_pen a__law_draw a__law_pick a__law_is a__law_gcd a__law_pair a__law_add a__law_mul a__law_below a__law_lots a__law_behind a__law_start a__law_best_of a_law v_is_whole v_as_tuples v_lowest v_added v_times v_is_less v_Flip___init__ v_need_things v_known_places v_lot_chance_by v_chance_of_best v_chances_behind v_behind_chances v_greatest_chance v_best_start v_is_flip v_first_flip v_best_lots_many v__law_sum_of v__law_greater v__law_pen v__law_draw v__law_pick v__law_is v__law_gcd v__law_pair v__law_add v__law_mul v__law_below v__law_lots v__law_behind v__law_start v__law_best_of v_law) : FnOk P w K mg base CX0 (2 * (k + 1)) a_is_less v_is_less ["one", "other"] (spF ⟨K, cA [C_Flip]⟩ (evF d_gl d_tb (k + 1)) "is_less" [false, false]) :=
  Z.f_is_less.ok sc_is_less (fun vs H Q E h => sp_len rfl h) fun cdv A outer s H vs Q E hr h => ⟨_, ((ss_cons (sm_ret (sd_cmp (o := .lt) rfl (u64 hr) (sd_bin (o := .mul) rfl (sd_ix rfl (u65 hr) rfl (sd_var (pv 0)) sd_int) (sd_ix rfl (u65 hr) rfl (sd_var (pv 1)) sd_int)) (sd_bin (o := .mul) rfl (sd_ix rfl (u65 hr) rfl (sd_var (pv 1)) sd_int) (sd_ix rfl (u65 hr) rfl (sd_var (pv 0)) sd_int))))
  ss_nil) : PSs _ (defBody s_is_less) (tSs ⟨K, cA [C_Flip]⟩ d_gl (evF d_gl d_tb k) d_is_less.body)), fin_of h rfl rfl rfl⟩
theorem ok_Flip___init__ (Z : Fx K mg C_Flip a_is_whole a_as_tuples a_lowest a_added a_times a_is_less a_Flip___init__ a_need_things a_known_places a_lot_chance_by a_chance_of_best a_chances_behind a_behind_chances a_greatest_chance a_best_start a_is_flip a_first_flip a_best_lots_many a__law_sum_of a__law_greater a__law_pen a__law_draw a__law_pick a__law_is a__law_gcd a__law_pair a__law_add a__law_mul a__law_below a__law_lots a__law_behind a__law_start a__law_best_of a_law v_is_whole v_as_tuples v_lowest v_added v_times v_is_less v_Flip___init__ v_need_things v_known_places v_lot_chance_by v_chance_of_best v_chances_behind v_behind_chances v_greatest_chance v_best_start v_is_flip v_first_flip v_best_lots_many v__law_sum_of v__law_greater v__law_pen v__law_draw v__law_pick v__law_is v__law_gcd v__law_pair v__law_add v__law_mul v__law_below v__law_lots v__law_behind v__law_start v__law_best_of v_law) (R : AllF P w K mg base k C_Flip a_is_whole a_as_tuples a_lowest a_added a_times a_is_less a_Flip___init__ a_need_things a_known_places a_lot_chance_by a_chance_of_best a_chances_behind a_behind_chances a_greatest_chance a_best_start a_is_flip a_first_flip a_best_lots_many a__law_sum_of a__law_greater a__law_pen a__law_draw a__law_pick a__law_is a__law_gcd a__law_pair a__law_add a__law_mul a__law_below a__law_lots a__law_behind a__law_start a__law_best_of a_law v_is_whole v_as_tuples v_lowest v_added v_times v_is_less v_Flip___init__ v_need_things v_known_places v_lot_chance_by v_chance_of_best v_chances_behind v_behind_chances v_greatest_chance v_best_start v_is_flip v_first_flip v_best_lots_many v__law_sum_of v__law_greater v__law_pen v__law_draw v__law_pick v__law_is v__law_gcd v__law_pair v__law_add v__law_mul v__law_below v__law_lots v__law_behind v__law_start v__law_best_of v_law) : FnOk P w K mg base CX0 (2 * (k + 1)) a_Flip___init__ v_Flip___init__ ["self", "place"] (spF ⟨K, cA [C_Flip]⟩ (evF d_gl d_tb (k + 1)) "Flip.__init__" [true, false]) :=
  Z.f_Flip___init__.ok sc_Flip___init__ (fun vs H Q E h => sp_len rfl h) fun cdv A outer s H vs Q E hr h => ⟨_, ((ss_cons (sm_setFld (f := "place") rfl Z.cls (by decide) (pv 0) (cl_any (CXX := CX0) (P := P) (w := w) R.o_as_tuples (hr2 hr) (by rfl) Z.g_as_tuples Z.f_as_tuples.kp Z.b_as_tuples (by decide +kernel) rfl rfl rfl (pa_args_val rfl rfl (sd_var (pv 1)) pa_args_nil)) (by rfl))
  ss_nil) : PSs _ (defBody s_Flip___init__) (tSs ⟨K, cA [C_Flip]⟩ d_gl (evF d_gl d_tb k) d_Flip___init__.body)), fin_of h rfl rfl rfl⟩
theorem ok_need_things (Z : Fx K mg C_Flip a_is_whole a_as_tuples a_lowest a_added a_times a_is_less a_Flip___init__ a_need_things a_known_places a_lot_chance_by a_chance_of_best a_chances_behind a_behind_chances a_greatest_chance a_best_start a_is_flip a_first_flip a_best_lots_many a__law_sum_of a__law_greater a__law_pen a__law_draw a__law_pick a__law_is a__law_gcd a__law_pair a__law_add a__law_mul a__law_below a__law_lots a__law_behind a__law_start a__law_best_of a_law v_is_whole v_as_tuples v_lowest v_added v_times v_is_less v_Flip___init__ v_need_things v_known_places v_lot_chance_by v_chance_of_best v_chances_behind v_behind_chances v_greatest_chance v_best_start v_is_flip v_first_flip v_best_lots_many v__law_sum_of v__law_greater v__law_pen v__law_draw v__law_pick v__law_is v__law_gcd v__law_pair v__law_add v__law_mul v__law_below v__law_lots v__law_behind v__law_start v__law_best_of v_law) (R : AllF P w K mg base k C_Flip a_is_whole a_as_tuples a_lowest a_added a_times a_is_less a_Flip___init__ a_need_things a_known_places a_lot_chance_by a_chance_of_best a_chances_behind a_behind_chances a_greatest_chance a_best_start a_is_flip a_first_flip a_best_lots_many a__law_sum_of a__law_greater a__law_pen a__law_draw a__law_pick a__law_is a__law_gcd a__law_pair a__law_add a__law_mul a__law_below a__law_lots a__law_behind a__law_start a__law_best_of a_law v_is_whole v_as_tuples v_lowest v_added v_times v_is_less v_Flip___init__ v_need_things v_known_places v_lot_chance_by v_chance_of_best v_chances_behind v_behind_chances v_greatest_chance v_best_start v_is_flip v_first_flip v_best_lots_many v__law_sum_of v__law_greater v__law_pen v__law_draw v__law_pick v__law_is v__law_gcd v__law_pair v__law_add v__law_mul v__law_below v__law_lots v__law_behind v__law_start v__law_best_of v_law) : FnOk P w K mg base CX0 (2 * (k + 1)) a_need_things v_need_things ["number"] (spF ⟨K, cA [C_Flip]⟩ (evF d_gl d_tb (k + 1)) "need_things" [false]) :=
  Z.f_need_things.ok sc_need_things (fun vs H Q E h => sp_len rfl h) fun cdv A outer s H vs Q E hr h => ⟨_, ((ss_cons (sm_if (st_tor (pw_torC (st_not (st_plain rfl rfl (cl_any (CXX := CX0) (P := P) (w := w) R.o_is_whole (hr2 hr) (by rfl) Z.g_is_whole Z.f_is_whole.kp Z.b_is_whole (by decide +kernel) rfl rfl rfl (pa_args_val rfl rfl (sd_var (pv 0)) pa_args_nil)))) (pw_tor1 (st_not (st_chain (o := .le) (o' := .le) rfl (u65 hr) sd_int (sd_var (pv 0)) (gc_int (x := "MOST_THINGS") rfl (by rfl) Z.c_MOST_THINGS (by decide +kernel))))))) (ss_cons sm_dead
  ss_nil) ss_nil)
  ss_nil) : PSs _ (defBody s_need_things) (tSs ⟨K, cA [C_Flip]⟩ d_gl (evF d_gl d_tb k) d_need_things.body)), fin_of h rfl rfl rfl⟩
theorem ok_known_places (Z : Fx K mg C_Flip a_is_whole a_as_tuples a_lowest a_added a_times a_is_less a_Flip___init__ a_need_things a_known_places a_lot_chance_by a_chance_of_best a_chances_behind a_behind_chances a_greatest_chance a_best_start a_is_flip a_first_flip a_best_lots_many a__law_sum_of a__law_greater a__law_pen a__law_draw a__law_pick a__law_is a__law_gcd a__law_pair a__law_add a__law_mul a__law_below a__law_lots a__law_behind a__law_start a__law_best_of a_law v_is_whole v_as_tuples v_lowest v_added v_times v_is_less v_Flip___init__ v_need_things v_known_places v_lot_chance_by v_chance_of_best v_chances_behind v_behind_chances v_greatest_chance v_best_start v_is_flip v_first_flip v_best_lots_many v__law_sum_of v__law_greater v__law_pen v__law_draw v__law_pick v__law_is v__law_gcd v__law_pair v__law_add v__law_mul v__law_below v__law_lots v__law_behind v__law_start v__law_best_of v_law) (R : AllF P w K mg base k C_Flip a_is_whole a_as_tuples a_lowest a_added a_times a_is_less a_Flip___init__ a_need_things a_known_places a_lot_chance_by a_chance_of_best a_chances_behind a_behind_chances a_greatest_chance a_best_start a_is_flip a_first_flip a_best_lots_many a__law_sum_of a__law_greater a__law_pen a__law_draw a__law_pick a__law_is a__law_gcd a__law_pair a__law_add a__law_mul a__law_below a__law_lots a__law_behind a__law_start a__law_best_of a_law v_is_whole v_as_tuples v_lowest v_added v_times v_is_less v_Flip___init__ v_need_things v_known_places v_lot_chance_by v_chance_of_best v_chances_behind v_behind_chances v_greatest_chance v_best_start v_is_flip v_first_flip v_best_lots_many v__law_sum_of v__law_greater v__law_pen v__law_draw v__law_pick v__law_is v__law_gcd v__law_pair v__law_add v__law_mul v__law_below v__law_lots v__law_behind v__law_start v__law_best_of v_law) : FnOk P w K mg base CX0 (2 * (k + 1)) a_known_places v_known_places ["number", "lot"] (spF ⟨K, cA [C_Flip]⟩ (evF d_gl d_tb (k + 1)) "known_places" [false, false]) :=
  Z.f_known_places.ok sc_known_places (fun vs H Q E h => sp_len rfl h) fun cdv A outer s H vs Q E hr h => ⟨_, ((ss_cons (sm_expr (cl_any (CXX := CX0) (P := P) (w := w) R.o_need_things (hr2 hr) (by rfl) Z.g_need_things Z.f_need_things.kp Z.b_need_things (by decide +kernel) rfl rfl rfl (pa_args_val rfl rfl (sd_var (pv 0)) pa_args_nil)) (by rfl))
  (ss_cons (sm_set (set_of (sd_ite (st_plain rfl rfl (isa1 rfl Z.cls (by rfl) Z.z_isinstance rfl rfl rfl (sd_var (pv 1)) (ty_list (by rfl) Z.z_list))) (fn1 (b := .tuple) rfl rfl rfl (u64 hr) (by rfl) Z.z_tuple rfl (sd_var (pv 1))) (sd_var (pv 1))) fun h => ps_set (i := 2) sc_known_places.nd rfl (by first | exact .inl rfl | exact .inr rfl) h))
  (ss_cons (sm_if (st_tor (pw_torC (st_not (st_plain rfl rfl (isa1 rfl Z.cls (by rfl) Z.z_isinstance rfl rfl rfl (sd_var (pv 2)) (ty_tuple (by rfl) Z.z_tuple)))) (pw_tor1 (st_not (st_plain rfl rfl (fn1 (b := .all) rfl rfl rfl (u64 hr) (by rfl) Z.z_all rfl (sd_comp rfl sc_known_places.nd ⟨by decide, (it_seq rfl (sd_var (pv 2))), ⟨[("one", 3)], rfl, blk_mk rfl⟩, fun _ _ _ _ _ => (tg_at (pg_name (i := 3) sc_known_places.nd rfl (by first | exact .inl rfl | exact .inr rfl))), fun _ _ _ _ _ => pts_nil', fun _ _ _ _ _ => (Sd.kept (sd_and (pe_andC (cl_any (CXX := CX0) (P := P) (w := w) R.o_is_whole (hr2 hr) (by rfl) Z.g_is_whole Z.f_is_whole.kp Z.b_is_whole (by decide +kernel) rfl rfl rfl (pa_args_val rfl rfl (sd_var (pv 3)) pa_args_nil)) (pe_and1 (sd_chain (o := .le) (o' := .le) rfl (u64 hr) sd_int (sd_var (pv 3)) (sd_var (pv 0))))))), fun _ => rfl⟩))))))) (ss_cons sm_dead
  ss_nil) ss_nil)
  (ss_cons (sm_if (st_not (st_plain rfl rfl (fn1 (b := .all) rfl rfl rfl (u64 hr) (by rfl) Z.z_all rfl (sd_comp rfl sc_known_places.nd ⟨by decide, (it_zip rfl (by rfl) Z.z_zip rfl rfl (sd_slice rfl (sd_var (pv 2)) po_absent (po_part (sd_neg sd_int))) (sd_slice rfl (sd_var (pv 2)) (po_part sd_int) po_absent) rfl), ⟨[("one", 3), ("other", 4)], rfl, blk_mk rfl⟩, fun _ _ _ _ _ => (tg_row rfl rfl (tgs_cons (tg_at (pg_name (i := 3) sc_known_places.nd rfl (by first | exact .inl rfl | exact .inr rfl))) (tgs_cons (tg_at (pg_name (i := 4) sc_known_places.nd rfl (by first | exact .inl rfl | exact .inr rfl))) tgs_nil rfl) rfl) rfl rfl), fun _ _ _ _ _ => pts_nil', fun _ _ _ _ _ => (Sd.kept (sd_cmp (o := .lt) rfl (u64 hr) (sd_var (pv 3)) (sd_var (pv 4)))), fun _ => rfl⟩)))) (ss_cons sm_dead
  ss_nil) ss_nil)
  (ss_cons (sm_ret (sd_var (pv 2)))
  ss_nil))))) : PSs _ (defBody s_known_places) (tSs ⟨K, cA [C_Flip]⟩ d_gl (evF d_gl d_tb k) d_known_places.body)), fin_of h rfl rfl rfl⟩
theorem ok_lot_chance_by (Z : Fx K mg C_Flip a_is_whole a_as_tuples a_lowest a_added a_times a_is_less a_Flip___init__ a_need_things a_known_places a_lot_chance_by a_chance_of_best a_chances_behind a_behind_chances a_greatest_chance a_best_start a_is_flip a_first_flip a_best_lots_many a__law_sum_of a__law_greater a__law_pen a__law_draw a__law_pick a__law_is a__law_gcd a__law_pair a__law_add a__law_mul a__law_below a__law_lots a__law_behind a__law_start a__law_best_of a_law v_is_whole v_as_tuples v_lowest v_added v_times v_is_less v_Flip___init__ v_need_things v_known_places v_lot_chance_by v_chance_of_best v_chances_behind v_behind_chances v_greatest_chance v_best_start v_is_flip v_first_flip v_best_lots_many v__law_sum_of v__law_greater v__law_pen v__law_draw v__law_pick v__law_is v__law_gcd v__law_pair v__law_add v__law_mul v__law_below v__law_lots v__law_behind v__law_start v__law_best_of v_law) (R : AllF P w K mg base k C_Flip a_is_whole a_as_tuples a_lowest a_added a_times a_is_less a_Flip___init__ a_need_things a_known_places a_lot_chance_by a_chance_of_best a_chances_behind a_behind_chances a_greatest_chance a_best_start a_is_flip a_first_flip a_best_lots_many a__law_sum_of a__law_greater a__law_pen a__law_draw a__law_pick a__law_is a__law_gcd a__law_pair a__law_add a__law_mul a__law_below a__law_lots a__law_behind a__law_start a__law_best_of a_law v_is_whole v_as_tuples v_lowest v_added v_times v_is_less v_Flip___init__ v_need_things v_known_places v_lot_chance_by v_chance_of_best v_chances_behind v_behind_chances v_greatest_chance v_best_start v_is_flip v_first_flip v_best_lots_many v__law_sum_of v__law_greater v__law_pen v__law_draw v__law_pick v__law_is v__law_gcd v__law_pair v__law_add v__law_mul v__law_below v__law_lots v__law_behind v__law_start v__law_best_of v_law) : FnOk P w K mg base CX0 (2 * (k + 1)) a_lot_chance_by v_lot_chance_by ["number", "lot"] (spF ⟨K, cA [C_Flip]⟩ (evF d_gl d_tb (k + 1)) "lot_chance_by" [false, false]) :=
  Z.f_lot_chance_by.ok sc_lot_chance_by (fun vs H Q E h => sp_len rfl h) fun cdv A outer s H vs Q E hr h => ⟨_, ((ss_cons (sm_par (par_plain (is := [3, 4]) rfl rfl (by decide) (pa_news_cons rfl (sd_tup (pa_items_cons rfl (fun _ z => nomatch z) sd_int (pa_items_cons rfl (fun _ z => nomatch z) sd_int pa_items_nil))) (pa_news_cons rfl (sd_tup (pa_items_cons rfl (fun _ z => nomatch z) sd_int (pa_items_cons rfl (fun _ z => nomatch z) sd_int pa_items_nil))) pa_news_nil)) (pgs_cons (pg_name (i := 3) sc_lot_chance_by.nd rfl (by first | exact .inl rfl | exact .inr rfl)) (pgs_cons (pg_name (i := 4) sc_lot_chance_by.nd rfl (by first | exact .inl rfl | exact .inr rfl)) pgs_nil rfl) rfl) rfl rfl (by rfl) (by rfl) rfl))
  (ss_cons (sm_for PassesOwn.never rfl (it_seq rfl (sd_var (pv 1))) (tg_at (pg_name (i := 2) sc_lot_chance_by.nd rfl (by first | exact .inl rfl | exact .inr rfl))) (ss_cons (sm_set (set_of (cl_any (CXX := CX0) (P := P) (w := w) R.o_added (hr2 hr) (by rfl) Z.g_added Z.f_added.kp Z.b_added (by decide +kernel) rfl rfl rfl (pa_args_val rfl rfl (sd_var (pv 3)) (pa_args_val rfl rfl (cl_any (CXX := CX0) (P := P) (w := w) R.o_times (hr2 hr) (by rfl) Z.g_times Z.f_times.kp Z.b_times (by decide +kernel) rfl rfl rfl (pa_args_val rfl rfl (sd_var (pv 4)) (pa_args_val rfl rfl (sd_tup (pa_items_cons rfl (fun _ z => nomatch z) sd_int (pa_items_cons rfl (fun _ z => nomatch z) (sd_var (pv 0)) pa_items_nil))) pa_args_nil))) pa_args_nil))) fun h => ps_set (i := 3) sc_lot_chance_by.nd rfl (by first | exact .inl rfl | exact .inr rfl) h))
  (ss_cons (sm_set (set_of (cl_any (CXX := CX0) (P := P) (w := w) R.o_times (hr2 hr) (by rfl) Z.g_times Z.f_times.kp Z.b_times (by decide +kernel) rfl rfl rfl (pa_args_val rfl rfl (sd_var (pv 4)) (pa_args_val rfl rfl (cl_any (CXX := CX0) (P := P) (w := w) R.o_lowest (hr2 hr) (by rfl) Z.g_lowest Z.f_lowest.kp Z.b_lowest (by decide +kernel) rfl rfl rfl (pa_args_val rfl rfl (sd_bin (o := .sub) rfl (sd_var (pv 2)) sd_int) (pa_args_val rfl rfl (sd_var (pv 2)) pa_args_nil))) pa_args_nil))) fun h => ps_set (i := 4) sc_lot_chance_by.nd rfl (by first | exact .inl rfl | exact .inr rfl) h))
  ss_nil)) (fun _ => rfl))
  (ss_cons (sm_ret (sd_var (pv 3)))
  ss_nil))) : PSs _ (defBody s_lot_chance_by) (tSs ⟨K, cA [C_Flip]⟩ d_gl (evF d_gl d_tb k) d_lot_chance_by.body)), fin_of h rfl rfl rfl⟩
theorem ok_chance_of_best (Z : Fx K mg C_Flip a_is_whole a_as_tuples a_lowest a_added a_times a_is_less a_Flip___init__ a_need_things a_known_places a_lot_chance_by a_chance_of_best a_chances_behind a_behind_chances a_greatest_chance a_best_start a_is_flip a_first_flip a_best_lots_many a__law_sum_of a__law_greater a__law_pen a__law_draw a__law_pick a__law_is a__law_gcd a__law_pair a__law_add a__law_mul a__law_below a__law_lots a__law_behind a__law_start a__law_best_of a_law v_is_whole v_as_tuples v_lowest v_added v_times v_is_less v_Flip___init__ v_need_things v_known_places v_lot_chance_by v_chance_of_best v_chances_behind v_behind_chances v_greatest_chance v_best_start v_is_flip v_first_flip v_best_lots_many v__law_sum_of v__law_greater v__law_pen v__law_draw v__law_pick v__law_is v__law_gcd v__law_pair v__law_add v__law_mul v__law_below v__law_lots v__law_behind v__law_start v__law_best_of v_law) (R : AllF P w K mg base k C_Flip a_is_whole a_as_tuples a_lowest a_added a_times a_is_less a_Flip___init__ a_need_things a_known_places a_lot_chance_by a_chance_of_best a_chances_behind a_behind_chances a_greatest_chance a_best_start a_is_flip a_first_flip a_best_lots_many a__law_sum_of a__law_greater a__law_pen a__law_draw a__law_pick a__law_is a__law_gcd a__law_pair a__law_add a__law_mul a__law_below a__law_lots a__law_behind a__law_start a__law_best_of a_law v_is_whole v_as_tuples v_lowest v_added v_times v_is_less v_Flip___init__ v_need_things v_known_places v_lot_chance_by v_chance_of_best v_chances_behind v_behind_chances v_greatest_chance v_best_start v_is_flip v_first_flip v_best_lots_many v__law_sum_of v__law_greater v__law_pen v__law_draw v__law_pick v__law_is v__law_gcd v__law_pair v__law_add v__law_mul v__law_below v__law_lots v__law_behind v__law_start v__law_best_of v_law) : FnOk P w K mg base CX0 (2 * (k + 1)) a_chance_of_best v_chance_of_best ["number", "lot"] (spF ⟨K, cA [C_Flip]⟩ (evF d_gl d_tb (k + 1)) "chance_of_best" [false, false]) :=
  Z.f_chance_of_best.ok sc_chance_of_best (fun vs H Q E h => sp_len rfl h) fun cdv A outer s H vs Q E hr h => ⟨_, ((ss_cons (sm_set (set_of (cl_any (CXX := CX0) (P := P) (w := w) R.o_known_places (hr2 hr) (by rfl) Z.g_known_places Z.f_known_places.kp Z.b_known_places (by decide +kernel) rfl rfl rfl (pa_args_val rfl rfl (sd_var (pv 0)) (pa_args_val rfl rfl (sd_var (pv 1)) pa_args_nil))) fun h => ps_set (i := 2) sc_chance_of_best.nd rfl (by first | exact .inl rfl | exact .inr rfl) h))
  (ss_cons (sm_ret (cl_any (CXX := CX0) (P := P) (w := w) R.o_lot_chance_by (hr2 hr) (by rfl) Z.g_lot_chance_by Z.f_lot_chance_by.kp Z.b_lot_chance_by (by decide +kernel) rfl rfl rfl (pa_args_val rfl rfl (sd_var (pv 0)) (pa_args_val rfl rfl (sd_var (pv 2)) pa_args_nil))))
  ss_nil)) : PSs _ (defBody s_chance_of_best) (tSs ⟨K, cA [C_Flip]⟩ d_gl (evF d_gl d_tb k) d_chance_of_best.body)), fin_of h rfl rfl rfl⟩
theorem ok_chances_behind (Z : Fx K mg C_Flip a_is_whole a_as_tuples a_lowest a_added a_times a_is_less a_Flip___init__ a_need_things a_known_places a_lot_chance_by a_chance_of_best a_chances_behind a_behind_chances a_greatest_chance a_best_start a_is_flip a_first_flip a_best_lots_many a__law_sum_of a__law_greater a__law_pen a__law_draw a__law_pick a__law_is a__law_gcd a__law_pair a__law_add a__law_mul a__law_below a__law_lots a__law_behind a__law_start a__law_best_of a_law v_is_whole v_as_tuples v_lowest v_added v_times v_is_less v_Flip___init__ v_need_things v_known_places v_lot_chance_by v_chance_of_best v_chances_behind v_behind_chances v_greatest_chance v_best_start v_is_flip v_first_flip v_best_lots_many v__law_sum_of v__law_greater v__law_pen v__law_draw v__law_pick v__law_is v__law_gcd v__law_pair v__law_add v__law_mul v__law_below v__law_lots v__law_behind v__law_start v__law_best_of v_law) (R : AllF P w K mg base k C_Flip a_is_whole a_as_tuples a_lowest a_added a_times a_is_less a_Flip___init__ a_need_things a_known_places a_lot_chance_by a_chance_of_best a_chances_behind a_behind_chances a_greatest_chance a_best_start a_is_flip a_first_flip a_best_lots_many a__law_sum_of a__law_greater a__law_pen a__law_draw a__law_pick a__law_is a__law_gcd a__law_pair a__law_add a__law_mul a__law_below a__law_lots a__law_behind a__law_start a__law_best_of a_law v_is_whole v_as_tuples v_lowest v_added v_times v_is_less v_Flip___init__ v_need_things v_known_places v_lot_chance_by v_chance_of_best v_chances_behind v_behind_chances v_greatest_chance v_best_start v_is_flip v_first_flip v_best_lots_many v__law_sum_of v__law_greater v__law_pen v__law_draw v__law_pick v__law_is v__law_gcd v__law_pair v__law_add v__law_mul v__law_below v__law_lots v__law_behind v__law_start v__law_best_of v_law) : FnOk P w K mg base CX0 (2 * (k + 1)) a_chances_behind v_chances_behind ["number"] (spF ⟨K, cA [C_Flip]⟩ (evF d_gl d_tb (k + 1)) "chances_behind" [false]) :=
  Z.f_chances_behind.ok sc_chances_behind (fun vs H Q E h => sp_len rfl h) fun cdv A outer s H vs Q E hr h => ⟨_, ((ss_cons (sm_set (set_of (sd_lst (pa_items_cons rfl (fun _ z => nomatch z) (sd_tup (pa_items_cons rfl (fun _ z => nomatch z) sd_int (pa_items_cons rfl (fun _ z => nomatch z) sd_int pa_items_nil))) pa_items_nil)) fun h => ps_set (i := 1) sc_chances_behind.nd rfl (by first | exact .inl rfl | exact .inr rfl) h))
  (ss_cons (sm_for PassesOwn.never rfl (it_rng3 (by rfl) Z.z_range rfl rfl rfl (sd_var (pv 0)) sd_int (sd_neg sd_int) rfl) (tg_at (pg_name (i := 2) sc_chances_behind.nd rfl (by first | exact .inl rfl | exact .inr rfl))) (ss_cons (sm_par (par_swap2 (ps_par (i := 4) (j := 5) rfl sc_chances_behind.nd rfl rfl (by decide) rfl rfl (pa_news_cons rfl (cl_any (CXX := CX0) (P := P) (w := w) R.o_lowest (hr2 hr) (by rfl) Z.g_lowest Z.f_lowest.kp Z.b_lowest (by decide +kernel) rfl rfl rfl (pa_args_val rfl rfl (sd_var (pv 2)) (pa_args_val rfl rfl (sd_var (pv 0)) pa_args_nil))) (pa_news_cons rfl (sd_ix rfl (u65 hr) rfl (sd_var (pv 1)) (sd_neg sd_int)) pa_news_nil)) (by rfl) (by rfl))))
  (ss_cons (sm_set (set_of (sd_ite (st_plain rfl rfl (cl_any (CXX := CX0) (P := P) (w := w) R.o_is_less (hr2 hr) (by rfl) Z.g_is_less Z.f_is_less.kp Z.b_is_less (by decide +kernel) rfl rfl rfl (pa_args_val rfl rfl (sd_var (pv 4)) (pa_args_val rfl rfl (sd_var (pv 5)) pa_args_nil)))) (sd_var (pv 5)) (sd_var (pv 4))) fun h => ps_set (i := 3) sc_chances_behind.nd rfl (by first | exact .inl rfl | exact .inr rfl) h))
  (ss_cons (sm_expr (sd_mut (m := .append) rfl (pv 1) rfl rfl (by decide) rfl (pa_kept_cons rfl (cl_any (CXX := CX0) (P := P) (w := w) R.o_added (hr2 hr) (by rfl) Z.g_added Z.f_added.kp Z.b_added (by decide +kernel) rfl rfl rfl (pa_args_val rfl rfl (cl_any (CXX := CX0) (P := P) (w := w) R.o_times (hr2 hr) (by rfl) Z.g_times Z.f_times.kp Z.b_times (by decide +kernel) rfl rfl rfl (pa_args_val rfl rfl (sd_tup (pa_items_cons rfl (fun _ z => nomatch z) sd_int (pa_items_cons rfl (fun _ z => nomatch z) (sd_var (pv 2)) pa_items_nil))) (pa_args_val rfl rfl (sd_var (pv 3)) pa_args_nil))) (pa_args_val rfl rfl (cl_any (CXX := CX0) (P := P) (w := w) R.o_times (hr2 hr) (by rfl) Z.g_times Z.f_times.kp Z.b_times (by decide +kernel) rfl rfl rfl (pa_args_val rfl rfl (cl_any (CXX := CX0) (P := P) (w := w) R.o_lowest (hr2 hr) (by rfl) Z.g_lowest Z.f_lowest.kp Z.b_lowest (by decide +kernel) rfl rfl rfl (pa_args_val rfl rfl (sd_bin (o := .sub) rfl (sd_var (pv 2)) sd_int) (pa_args_val rfl rfl (sd_var (pv 2)) pa_args_nil))) (pa_args_val rfl rfl (sd_var (pv 5)) pa_args_nil))) pa_args_nil))) pa_kept_nil)) (by rfl))
  ss_nil))) (fun _ => rfl))
  (ss_cons (sm_ret (sd_rev rfl (sd_var (pv 1))))
  ss_nil))) : PSs _ (defBody s_chances_behind) (tSs ⟨K, cA [C_Flip]⟩ d_gl (evF d_gl d_tb k) d_chances_behind.body)), fin_of h rfl rfl rfl⟩
theorem ok_behind_chances (Z : Fx K mg C_Flip a_is_whole a_as_tuples a_lowest a_added a_times a_is_less a_Flip___init__ a_need_things a_known_places a_lot_chance_by a_chance_of_best a_chances_behind a_behind_chances a_greatest_chance a_best_start a_is_flip a_first_flip a_best_lots_many a__law_sum_of a__law_greater a__law_pen a__law_draw a__law_pick a__law_is a__law_gcd a__law_pair a__law_add a__law_mul a__law_below a__law_lots a__law_behind a__law_start a__law_best_of a_law v_is_whole v_as_tuples v_lowest v_added v_times v_is_less v_Flip___init__ v_need_things v_known_places v_lot_chance_by v_chance_of_best v_chances_behind v_behind_chances v_greatest_chance v_best_start v_is_flip v_first_flip v_best_lots_many v__law_sum_of v__law_greater v__law_pen v__law_draw v__law_pick v__law_is v__law_gcd v__law_pair v__law_add v__law_mul v__law_below v__law_lots v__law_behind v__law_start v__law_best_of v_law) (R : AllF P w K mg base k C_Flip a_is_whole a_as_tuples a_lowest a_added a_times a_is_less a_Flip___init__ a_need_things a_known_places a_lot_chance_by a_chance_of_best a_chances_behind a_behind_chances a_greatest_chance a_best_start a_is_flip a_first_flip a_best_lots_many a__law_sum_of a__law_greater a__law_pen a__law_draw a__law_pick a__law_is a__law_gcd a__law_pair a__law_add a__law_mul a__law_below a__law_lots a__law_behind a__law_start a__law_best_of a_law v_is_whole v_as_tuples v_lowest v_added v_times v_is_less v_Flip___init__ v_need_things v_known_places v_lot_chance_by v_chance_of_best v_chances_behind v_behind_chances v_greatest_chance v_best_start v_is_flip v_first_flip v_best_lots_many v__law_sum_of v__law_greater v__law_pen v__law_draw v__law_pick v__law_is v__law_gcd v__law_pair v__law_add v__law_mul v__law_below v__law_lots v__law_behind v__law_start v__law_best_of v_law) : FnOk P w K mg base CX0 (2 * (k + 1)) a_behind_chances v_behind_chances ["number"] (spF ⟨K, cA [C_Flip]⟩ (evF d_gl d_tb (k + 1)) "behind_chances" [false]) :=
  Z.f_behind_chances.ok sc_behind_chances (fun vs H Q E h => sp_len rfl h) fun cdv A outer s H vs Q E hr h => ⟨_, ((ss_cons (sm_expr (cl_any (CXX := CX0) (P := P) (w := w) R.o_need_things (hr2 hr) (by rfl) Z.g_need_things Z.f_need_things.kp Z.b_need_things (by decide +kernel) rfl rfl rfl (pa_args_val rfl rfl (sd_var (pv 0)) pa_args_nil)) (by rfl))
  (ss_cons (sm_ret (fn1 (b := .tuple) rfl rfl rfl (u64 hr) (by rfl) Z.z_tuple rfl (sd_slice rfl (cl_any (CXX := CX0) (P := P) (w := w) R.o_chances_behind (hr2 hr) (by rfl) Z.g_chances_behind Z.f_chances_behind.kp Z.b_chances_behind (by decide +kernel) rfl rfl rfl (pa_args_val rfl rfl (sd_var (pv 0)) pa_args_nil)) (po_part sd_int) po_absent)))
  ss_nil)) : PSs _ (defBody s_behind_chances) (tSs ⟨K, cA [C_Flip]⟩ d_gl (evF d_gl d_tb k) d_behind_chances.body)), fin_of h rfl rfl rfl⟩
theorem ok_greatest_chance (Z : Fx K mg C_Flip a_is_whole a_as_tuples a_lowest a_added a_times a_is_less a_Flip___init__ a_need_things a_known_places a_lot_chance_by a_chance_of_best a_chances_behind a_behind_chances a_greatest_chance a_best_start a_is_flip a_first_flip a_best_lots_many a__law_sum_of a__law_greater a__law_pen a__law_draw a__law_pick a__law_is a__law_gcd a__law_pair a__law_add a__law_mul a__law_below a__law_lots a__law_behind a__law_start a__law_best_of a_law v_is_whole v_as_tuples v_lowest v_added v_times v_is_less v_Flip___init__ v_need_things v_known_places v_lot_chance_by v_chance_of_best v_chances_behind v_behind_chances v_greatest_chance v_best_start v_is_flip v_first_flip v_best_lots_many v__law_sum_of v__law_greater v__law_pen v__law_draw v__law_pick v__law_is v__law_gcd v__law_pair v__law_add v__law_mul v__law_below v__law_lots v__law_behind v__law_start v__law_best_of v_law) (R : AllF P w K mg base k C_Flip a_is_whole a_as_tuples a_lowest a_added a_times a_is_less a_Flip___init__ a_need_things a_known_places a_lot_chance_by a_chance_of_best a_chances_behind a_behind_chances a_greatest_chance a_best_start a_is_flip a_first_flip a_best_lots_many a__law_sum_of a__law_greater a__law_pen a__law_draw a__law_pick a__law_is a__law_gcd a__law_pair a__law_add a__law_mul a__law_below a__law_lots a__law_behind a__law_start a__law_best_of a_law v_is_whole v_as_tuples v_lowest v_added v_times v_is_less v_Flip___init__ v_need_things v_known_places v_lot_chance_by v_chance_of_best v_chances_behind v_behind_chances v_greatest_chance v_best_start v_is_flip v_first_flip v_best_lots_many v__law_sum_of v__law_greater v__law_pen v__law_draw v__law_pick v__law_is v__law_gcd v__law_pair v__law_add v__law_mul v__law_below v__law_lots v__law_behind v__law_start v__law_best_of v_law) : FnOk P w K mg base CX0 (2 * (k + 1)) a_greatest_chance v_greatest_chance ["number"] (spF ⟨K, cA [C_Flip]⟩ (evF d_gl d_tb (k + 1)) "greatest_chance" [false]) :=
  Z.f_greatest_chance.ok sc_greatest_chance (fun vs H Q E h => sp_len rfl h) fun cdv A outer s H vs Q E hr h => ⟨_, ((ss_cons (sm_expr (cl_any (CXX := CX0) (P := P) (w := w) R.o_need_things (hr2 hr) (by rfl) Z.g_need_things Z.f_need_things.kp Z.b_need_things (by decide +kernel) rfl rfl rfl (pa_args_val rfl rfl (sd_var (pv 0)) pa_args_nil)) (by rfl))
  (ss_cons (sm_ret (sd_ix rfl (u65 hr) rfl (cl_any (CXX := CX0) (P := P) (w := w) R.o_chances_behind (hr2 hr) (by rfl) Z.g_chances_behind Z.f_chances_behind.kp Z.b_chances_behind (by decide +kernel) rfl rfl rfl (pa_args_val rfl rfl (sd_var (pv 0)) pa_args_nil)) sd_int))
  ss_nil)) : PSs _ (defBody s_greatest_chance) (tSs ⟨K, cA [C_Flip]⟩ d_gl (evF d_gl d_tb k) d_greatest_chance.body)), fin_of h rfl rfl rfl⟩
theorem ok_best_start (Z : Fx K mg C_Flip a_is_whole a_as_tuples a_lowest a_added a_times a_is_less a_Flip___init__ a_need_things a_known_places a_lot_chance_by a_chance_of_best a_chances_behind a_behind_chances a_greatest_chance a_best_start a_is_flip a_first_flip a_best_lots_many a__law_sum_of a__law_greater a__law_pen a__law_draw a__law_pick a__law_is a__law_gcd a__law_pair a__law_add a__law_mul a__law_below a__law_lots a__law_behind a__law_start a__law_best_of a_law v_is_whole v_as_tuples v_lowest v_added v_times v_is_less v_Flip___init__ v_need_things v_known_places v_lot_chance_by v_chance_of_best v_chances_behind v_behind_chances v_greatest_chance v_best_start v_is_flip v_first_flip v_best_lots_many v__law_sum_of v__law_greater v__law_pen v__law_draw v__law_pick v__law_is v__law_gcd v__law_pair v__law_add v__law_mul v__law_below v__law_lots v__law_behind v__law_start v__law_best_of v_law) (R : AllF P w K mg base k C_Flip a_is_whole a_as_tuples a_lowest a_added a_times a_is_less a_Flip___init__ a_need_things a_known_places a_lot_chance_by a_chance_of_best a_chances_behind a_behind_chances a_greatest_chance a_best_start a_is_flip a_first_flip a_best_lots_many a__law_sum_of a__law_greater a__law_pen a__law_draw a__law_pick a__law_is a__law_gcd a__law_pair a__law_add a__law_mul a__law_below a__law_lots a__law_behind a__law_start a__law_best_of a_law v_is_whole v_as_tuples v_lowest v_added v_times v_is_less v_Flip___init__ v_need_things v_known_places v_lot_chance_by v_chance_of_best v_chances_behind v_behind_chances v_greatest_chance v_best_start v_is_flip v_first_flip v_best_lots_many v__law_sum_of v__law_greater v__law_pen v__law_draw v__law_pick v__law_is v__law_gcd v__law_pair v__law_add v__law_mul v__law_below v__law_lots v__law_behind v__law_start v__law_best_of v_law) : FnOk P w K mg base CX0 (2 * (k + 1)) a_best_start v_best_start ["number"] (spF ⟨K, cA [C_Flip]⟩ (evF d_gl d_tb (k + 1)) "best_start" [false]) :=
  Z.f_best_start.ok sc_best_start (fun vs H Q E h => sp_len rfl h) fun cdv A outer s H vs Q E hr h => ⟨_, ((ss_cons (sm_expr (cl_any (CXX := CX0) (P := P) (w := w) R.o_need_things (hr2 hr) (by rfl) Z.g_need_things Z.f_need_things.kp Z.b_need_things (by decide +kernel) rfl rfl rfl (pa_args_val rfl rfl (sd_var (pv 0)) pa_args_nil)) (by rfl))
  (ss_cons (sm_par (par_swap2 (ps_par (i := 1) (j := 2) rfl sc_best_start.nd rfl rfl (by decide) rfl rfl (pa_news_cons rfl (sd_tup (pa_items_cons rfl (fun _ z => nomatch z) sd_int (pa_items_cons rfl (fun _ z => nomatch z) sd_int pa_items_nil))) (pa_news_cons rfl (sd_var (pv 0)) pa_news_nil)) (by rfl) (by rfl))))
  (ss_cons (sm_while PassesOwn.never (st_tand (pw_tandC (st_cmp (o := .gt) rfl (u65 hr) (sd_var (pv 2)) sd_int) (pw_tand1 (st_not (st_plain rfl rfl (cl_any (CXX := CX0) (P := P) (w := w) R.o_is_less (hr2 hr) (by rfl) Z.g_is_less Z.f_is_less.kp Z.b_is_less (by decide +kernel) rfl rfl rfl (pa_args_val rfl rfl (sd_tup (pa_items_cons rfl (fun _ z => nomatch z) sd_int (pa_items_cons rfl (fun _ z => nomatch z) sd_int pa_items_nil))) (pa_args_val rfl rfl (cl_any (CXX := CX0) (P := P) (w := w) R.o_added (hr2 hr) (by rfl) Z.g_added Z.f_added.kp Z.b_added (by decide +kernel) rfl rfl rfl (pa_args_val rfl rfl (sd_var (pv 1)) (pa_args_val rfl rfl (sd_tup (pa_items_cons rfl (fun _ z => nomatch z) sd_int (pa_items_cons rfl (fun _ z => nomatch z) (sd_bin (o := .sub) rfl (sd_var (pv 2)) sd_int) pa_items_nil))) pa_args_nil))) pa_args_nil)))))))) (ss_cons (sm_par (par_swap2 (ps_par (i := 1) (j := 2) rfl sc_best_start.nd rfl rfl (by decide) rfl rfl (pa_news_cons rfl (cl_any (CXX := CX0) (P := P) (w := w) R.o_added (hr2 hr) (by rfl) Z.g_added Z.f_added.kp Z.b_added (by decide +kernel) rfl rfl rfl (pa_args_val rfl rfl (sd_var (pv 1)) (pa_args_val rfl rfl (sd_tup (pa_items_cons rfl (fun _ z => nomatch z) sd_int (pa_items_cons rfl (fun _ z => nomatch z) (sd_bin (o := .sub) rfl (sd_var (pv 2)) sd_int) pa_items_nil))) pa_args_nil))) (pa_news_cons rfl (sd_bin (o := .sub) rfl (sd_var (pv 2)) sd_int) pa_news_nil)) (by rfl) (by rfl))))
  ss_nil))
  (ss_cons (sm_ret (sd_var (pv 2)))
  ss_nil)))) : PSs _ (defBody s_best_start) (tSs ⟨K, cA [C_Flip]⟩ d_gl (evF d_gl d_tb k) d_best_start.body)), fin_of h rfl rfl rfl⟩
theorem ok_is_flip (Z : Fx K mg C_Flip a_is_whole a_as_tuples a_lowest a_added a_times a_is_less a_Flip___init__ a_need_things a_known_places a_lot_chance_by a_chance_of_best a_chances_behind a_behind_chances a_greatest_chance a_best_start a_is_flip a_first_flip a_best_lots_many a__law_sum_of a__law_greater a__law_pen a__law_draw a__law_pick a__law_is a__law_gcd a__law_pair a__law_add a__law_mul a__law_below a__law_lots a__law_behind a__law_start a__law_best_of a_law v_is_whole v_as_tuples v_lowest v_added v_times v_is_less v_Flip___init__ v_need_things v_known_places v_lot_chance_by v_chance_of_best v_chances_behind v_behind_chances v_greatest_chance v_best_start v_is_flip v_first_flip v_best_lots_many v__law_sum_of v__law_greater v__law_pen v__law_draw v__law_pick v__law_is v__law_gcd v__law_pair v__law_add v__law_mul v__law_below v__law_lots v__law_behind v__law_start v__law_best_of v_law) (R : AllF P w K mg base k C_Flip a_is_whole a_as_tuples a_lowest a_added a_times a_is_less a_Flip___init__ a_need_things a_known_places a_lot_chance_by a_chance_of_best a_chances_behind a_behind_chances a_greatest_chance a_best_start a_is_flip a_first_flip a_best_lots_many a__law_sum_of a__law_greater a__law_pen a__law_draw a__law_pick a__law_is a__law_gcd a__law_pair a__law_add a__law_mul a__law_below a__law_lots a__law_behind a__law_start a__law_best_of a_law v_is_whole v_as_tuples v_lowest v_added v_times v_is_less v_Flip___init__ v_need_things v_known_places v_lot_chance_by v_chance_of_best v_chances_behind v_behind_chances v_greatest_chance v_best_start v_is_flip v_first_flip v_best_lots_many v__law_sum_of v__law_greater v__law_pen v__law_draw v__law_pick v__law_is v__law_gcd v__law_pair v__law_add v__law_mul v__law_below v__law_lots v__law_behind v__law_start v__law_best_of v_law) : FnOk P w K mg base CX0 (2 * (k + 1)) a_is_flip v_is_flip ["number", "lot", "place", "behind"] (spF ⟨K, cA [C_Flip]⟩ (evF d_gl d_tb (k + 1)) "is_flip" [false, false, false, false]) :=
  Z.f_is_flip.ok sc_is_flip (fun vs H Q E h => sp_len rfl h) fun cdv A outer s H vs Q E hr h => ⟨_, ((ss_cons (sm_if (st_tand (pw_tandC (st_mem rfl (u65 hr) rfl sd_int (sd_var (pv 1))) (pw_tand1 (st_cmp (o := .ne) rfl (u65 hr) (sd_var (pv 2)) sd_int)))) (ss_cons (sm_ret sd_bl)
  ss_nil) ss_nil)
  (ss_cons (sm_set (set_of (cl_any (CXX := CX0) (P := P) (w := w) R.o_lowest (hr2 hr) (by rfl) Z.g_lowest Z.f_lowest.kp Z.b_lowest (by decide +kernel) rfl rfl rfl (pa_args_val rfl rfl (sd_var (pv 2)) (pa_args_val rfl rfl (sd_var (pv 0)) pa_args_nil))) fun h => ps_set (i := 4) sc_is_flip.nd rfl (by first | exact .inl rfl | exact .inr rfl) h))
  (ss_cons (sm_ret (sd_ite (st_mem rfl (u65 hr) rfl (sd_var (pv 2)) (sd_var (pv 1))) (cl_any (CXX := CX0) (P := P) (w := w) R.o_is_less (hr2 hr) (by rfl) Z.g_is_less Z.f_is_less.kp Z.b_is_less (by decide +kernel) rfl rfl rfl (pa_args_val rfl rfl (sd_var (pv 4)) (pa_args_val rfl rfl (sd_ix rfl (u65 hr) rfl (sd_var (pv 3)) (sd_var (pv 2))) pa_args_nil))) (cl_any (CXX := CX0) (P := P) (w := w) R.o_is_less (hr2 hr) (by rfl) Z.g_is_less Z.f_is_less.kp Z.b_is_less (by decide +kernel) rfl rfl rfl (pa_args_val rfl rfl (sd_ix rfl (u65 hr) rfl (sd_var (pv 3)) (sd_var (pv 2))) (pa_args_val rfl rfl (sd_var (pv 4)) pa_args_nil)))))
  ss_nil))) : PSs _ (defBody s_is_flip) (tSs ⟨K, cA [C_Flip]⟩ d_gl (evF d_gl d_tb k) d_is_flip.body)), fin_of h rfl rfl rfl⟩
theorem ok_first_flip (Z : Fx K mg C_Flip a_is_whole a_as_tuples a_lowest a_added a_times a_is_less a_Flip___init__ a_need_things a_known_places a_lot_chance_by a_chance_of_best a_chances_behind a_behind_chances a_greatest_chance a_best_start a_is_flip a_first_flip a_best_lots_many a__law_sum_of a__law_greater a__law_pen a__law_draw a__law_pick a__law_is a__law_gcd a__law_pair a__law_add a__law_mul a__law_below a__law_lots a__law_behind a__law_start a__law_best_of a_law v_is_whole v_as_tuples v_lowest v_added v_times v_is_less v_Flip___init__ v_need_things v_known_places v_lot_chance_by v_chance_of_best v_chances_behind v_behind_chances v_greatest_chance v_best_start v_is_flip v_first_flip v_best_lots_many v__law_sum_of v__law_greater v__law_pen v__law_draw v__law_pick v__law_is v__law_gcd v__law_pair v__law_add v__law_mul v__law_below v__law_lots v__law_behind v__law_start v__law_best_of v_law) (R : AllF P w K mg base k C_Flip a_is_whole a_as_tuples a_lowest a_added a_times a_is_less a_Flip___init__ a_need_things a_known_places a_lot_chance_by a_chance_of_best a_chances_behind a_behind_chances a_greatest_chance a_best_start a_is_flip a_first_flip a_best_lots_many a__law_sum_of a__law_greater a__law_pen a__law_draw a__law_pick a__law_is a__law_gcd a__law_pair a__law_add a__law_mul a__law_below a__law_lots a__law_behind a__law_start a__law_best_of a_law v_is_whole v_as_tuples v_lowest v_added v_times v_is_less v_Flip___init__ v_need_things v_known_places v_lot_chance_by v_chance_of_best v_chances_behind v_behind_chances v_greatest_chance v_best_start v_is_flip v_first_flip v_best_lots_many v__law_sum_of v__law_greater v__law_pen v__law_draw v__law_pick v__law_is v__law_gcd v__law_pair v__law_add v__law_mul v__law_below v__law_lots v__law_behind v__law_start v__law_best_of v_law) : FnOk P w K mg base CX0 (2 * (k + 1)) a_first_flip v_first_flip ["number", "lot"] (spF ⟨K, cA [C_Flip]⟩ (evF d_gl d_tb (k + 1)) "first_flip" [false, false]) :=
  Z.f_first_flip.ok sc_first_flip (fun vs H Q E h => sp_len rfl h) fun cdv A outer s H vs Q E hr h => ⟨_, ((ss_cons (sm_set (set_of (cl_any (CXX := CX0) (P := P) (w := w) R.o_known_places (hr2 hr) (by rfl) Z.g_known_places Z.f_known_places.kp Z.b_known_places (by decide +kernel) rfl rfl rfl (pa_args_val rfl rfl (sd_var (pv 0)) (pa_args_val rfl rfl (sd_var (pv 1)) pa_args_nil))) fun h => ps_set (i := 2) sc_first_flip.nd rfl (by first | exact .inl rfl | exact .inr rfl) h))
  (ss_cons (sm_set (set_of (cl_any (CXX := CX0) (P := P) (w := w) R.o_chances_behind (hr2 hr) (by rfl) Z.g_chances_behind Z.f_chances_behind.kp Z.b_chances_behind (by decide +kernel) rfl rfl rfl (pa_args_val rfl rfl (sd_var (pv 0)) pa_args_nil)) fun h => ps_set (i := 3) sc_first_flip.nd rfl (by first | exact .inl rfl | exact .inr rfl) h))
  (ss_cons (sm_for PassesOwn.never rfl (it_rng2 (by rfl) Z.z_range rfl rfl sd_int (sd_bin (o := .add) rfl (sd_var (pv 0)) sd_int)) (tg_at (pg_name (i := 4) sc_first_flip.nd rfl (by first | exact .inl rfl | exact .inr rfl))) (ss_cons (sm_if (st_plain rfl rfl (cl_any (CXX := CX0) (P := P) (w := w) R.o_is_flip (hr2 hr) (by rfl) Z.g_is_flip Z.f_is_flip.kp Z.b_is_flip (by decide +kernel) rfl rfl rfl (pa_args_val rfl rfl (sd_var (pv 0)) (pa_args_val rfl rfl (sd_var (pv 2)) (pa_args_val rfl rfl (sd_var (pv 4)) (pa_args_val rfl rfl (sd_var (pv 3)) pa_args_nil)))))) (ss_cons (sm_ret (mk_any (c := "Flip") rfl Z.m_Flip R.o_Flip___init__ hr (by rfl) Z.gc_Flip Z.b_Flip___init__ (by decide +kernel) rfl rfl (pa_kept_cons rfl (sd_var (pv 4)) pa_kept_nil)))
  ss_nil) ss_nil)
  ss_nil) (fun _ => rfl))
  (ss_cons (sm_ret sd_non)
  ss_nil)))) : PSs _ (defBody s_first_flip) (tSs ⟨K, cA [C_Flip]⟩ d_gl (evF d_gl d_tb k) d_first_flip.body)), fin_of h rfl rfl rfl⟩
theorem ok_best_lots_many (Z : Fx K mg C_Flip a_is_whole a_as_tuples a_lowest a_added a_times a_is_less a_Flip___init__ a_need_things a_known_places a_lot_chance_by a_chance_of_best a_chances_behind a_behind_chances a_greatest_chance a_best_start a_is_flip a_first_flip a_best_lots_many a__law_sum_of a__law_greater a__law_pen a__law_draw a__law_pick a__law_is a__law_gcd a__law_pair a__law_add a__law_mul a__law_below a__law_lots a__law_behind a__law_start a__law_best_of a_law v_is_whole v_as_tuples v_lowest v_added v_times v_is_less v_Flip___init__ v_need_things v_known_places v_lot_chance_by v_chance_of_best v_chances_behind v_behind_chances v_greatest_chance v_best_start v_is_flip v_first_flip v_best_lots_many v__law_sum_of v__law_greater v__law_pen v__law_draw v__law_pick v__law_is v__law_gcd v__law_pair v__law_add v__law_mul v__law_below v__law_lots v__law_behind v__law_start v__law_best_of v_law) (R : AllF P w K mg base k C_Flip a_is_whole a_as_tuples a_lowest a_added a_times a_is_less a_Flip___init__ a_need_things a_known_places a_lot_chance_by a_chance_of_best a_chances_behind a_behind_chances a_greatest_chance a_best_start a_is_flip a_first_flip a_best_lots_many a__law_sum_of a__law_greater a__law_pen a__law_draw a__law_pick a__law_is a__law_gcd a__law_pair a__law_add a__law_mul a__law_below a__law_lots a__law_behind a__law_start a__law_best_of a_law v_is_whole v_as_tuples v_lowest v_added v_times v_is_less v_Flip___init__ v_need_things v_known_places v_lot_chance_by v_chance_of_best v_chances_behind v_behind_chances v_greatest_chance v_best_start v_is_flip v_first_flip v_best_lots_many v__law_sum_of v__law_greater v__law_pen v__law_draw v__law_pick v__law_is v__law_gcd v__law_pair v__law_add v__law_mul v__law_below v__law_lots v__law_behind v__law_start v__law_best_of v_law) : FnOk P w K mg base CX0 (2 * (k + 1)) a_best_lots_many v_best_lots_many ["number"] (spF ⟨K, cA [C_Flip]⟩ (evF d_gl d_tb (k + 1)) "best_lots_many" [false]) :=
  Z.f_best_lots_many.ok sc_best_lots_many (fun vs H Q E h => sp_len rfl h) fun cdv A outer s H vs Q E hr h => ⟨_, ((ss_cons (sm_expr (cl_any (CXX := CX0) (P := P) (w := w) R.o_need_things (hr2 hr) (by rfl) Z.g_need_things Z.f_need_things.kp Z.b_need_things (by decide +kernel) rfl rfl rfl (pa_args_val rfl rfl (sd_var (pv 0)) pa_args_nil)) (by rfl))
  (ss_cons (sm_par (par_swap2 (ps_par (i := 4) (j := 5) rfl sc_best_lots_many.nd rfl rfl (by decide) rfl rfl (pa_news_cons rfl (cl_any (CXX := CX0) (P := P) (w := w) R.o_chances_behind (hr2 hr) (by rfl) Z.g_chances_behind Z.f_chances_behind.kp Z.b_chances_behind (by decide +kernel) rfl rfl rfl (pa_args_val rfl rfl (sd_var (pv 0)) pa_args_nil)) (pa_news_cons rfl sd_int pa_news_nil)) (by rfl) (by rfl))))
  (ss_cons (sm_for PassesOwn.never rfl (it_rng2 (by rfl) Z.z_range rfl rfl sd_int (sd_bin (o := .add) rfl (sd_var (pv 0)) sd_int)) (tg_at (pg_name (i := 1) sc_best_lots_many.nd rfl (by first | exact .inl rfl | exact .inr rfl))) (ss_cons (sm_set (set_of (sd_bin (o := .mul) rfl (sd_var (pv 5)) (sd_ite (st_cmp (o := .eq) rfl (u65 hr) (cl_any (CXX := CX0) (P := P) (w := w) R.o_lowest (hr2 hr) (by rfl) Z.g_lowest Z.f_lowest.kp Z.b_lowest (by decide +kernel) rfl rfl rfl (pa_args_val rfl rfl (sd_var (pv 1)) (pa_args_val rfl rfl (sd_var (pv 0)) pa_args_nil))) (sd_ix rfl (u65 hr) rfl (sd_var (pv 4)) (sd_var (pv 1)))) sd_int sd_int)) fun h => ps_set (i := 5) sc_best_lots_many.nd rfl (by first | exact .inl rfl | exact .inr rfl) h))
  ss_nil) (fun _ => rfl))
  (ss_cons (sm_set (set_of (cl_any (CXX := CX0) (P := P) (w := w) R.o_lowest (hr2 hr) (by rfl) Z.g_lowest Z.f_lowest.kp Z.b_lowest (by decide +kernel) rfl rfl rfl (pa_args_val rfl rfl sd_int (pa_args_val rfl rfl (sd_var (pv 0)) pa_args_nil))) fun h => ps_set (i := 2) sc_best_lots_many.nd rfl (by first | exact .inl rfl | exact .inr rfl) h))
  (ss_cons (sm_set (set_of (sd_ite (st_plain rfl rfl (cl_any (CXX := CX0) (P := P) (w := w) R.o_is_less (hr2 hr) (by rfl) Z.g_is_less Z.f_is_less.kp Z.b_is_less (by decide +kernel) rfl rfl rfl (pa_args_val rfl rfl (sd_var (pv 2)) (pa_args_val rfl rfl (sd_ix rfl (u65 hr) rfl (sd_var (pv 4)) sd_int) pa_args_nil)))) sd_int (sd_bin (o := .shl) rfl sd_int (sd_bin (o := .sub) rfl (sd_var (pv 0)) sd_int))) fun h => ps_set (i := 3) sc_best_lots_many.nd rfl (by first | exact .inl rfl | exact .inr rfl) h))
  (ss_cons (sm_ret (sd_bin (o := .add) rfl (sd_var (pv 3)) (sd_ite (st_plain rfl rfl (cl_any (CXX := CX0) (P := P) (w := w) R.o_is_less (hr2 hr) (by rfl) Z.g_is_less Z.f_is_less.kp Z.b_is_less (by decide +kernel) rfl rfl rfl (pa_args_val rfl rfl (sd_ix rfl (u65 hr) rfl (sd_var (pv 4)) sd_int) (pa_args_val rfl rfl (sd_var (pv 2)) pa_args_nil)))) sd_int (sd_var (pv 5)))))
  ss_nil)))))) : PSs _ (defBody s_best_lots_many) (tSs ⟨K, cA [C_Flip]⟩ d_gl (evF d_gl d_tb k) d_best_lots_many.body)), fin_of h rfl rfl rfl⟩
theorem ok__law_sum_of (Z : Fx K mg C_Flip a_is_whole a_as_tuples a_lowest a_added a_times a_is_less a_Flip___init__ a_need_things a_known_places a_lot_chance_by a_chance_of_best a_chances_behind a_behind_chances a_greatest_chance a_best_start a_is_flip a_first_flip a_best_lots_many a__law_sum_of a__law_greater a__law_pen a__law_draw a__law_pick a__law_is a__law_gcd a__law_pair a__law_add a__law_mul a__law_below a__law_lots a__law_behind a__law_start a__law_best_of a_law v_is_whole v_as_tuples v_lowest v_added v_times v_is_less v_Flip___init__ v_need_things v_known_places v_lot_chance_by v_chance_of_best v_chances_behind v_behind_chances v_greatest_chance v_best_start v_is_flip v_first_flip v_best_lots_many v__law_sum_of v__law_greater v__law_pen v__law_draw v__law_pick v__law_is v__law_gcd v__law_pair v__law_add v__law_mul v__law_below v__law_lots v__law_behind v__law_start v__law_best_of v_law) (R : AllF P w K mg base k C_Flip a_is_whole a_as_tuples a_lowest a_added a_times a_is_less a_Flip___init__ a_need_things a_known_places a_lot_chance_by a_chance_of_best a_chances_behind a_behind_chances a_greatest_chance a_best_start a_is_flip a_first_flip a_best_lots_many a__law_sum_of a__law_greater a__law_pen a__law_draw a__law_pick a__law_is a__law_gcd a__law_pair a__law_add a__law_mul a__law_below a__law_lots a__law_behind a__law_start a__law_best_of a_law v_is_whole v_as_tuples v_lowest v_added v_times v_is_less v_Flip___init__ v_need_things v_known_places v_lot_chance_by v_chance_of_best v_chances_behind v_behind_chances v_greatest_chance v_best_start v_is_flip v_first_flip v_best_lots_many v__law_sum_of v__law_greater v__law_pen v__law_draw v__law_pick v__law_is v__law_gcd v__law_pair v__law_add v__law_mul v__law_below v__law_lots v__law_behind v__law_start v__law_best_of v_law) : FnOk P w K mg base CX0 (2 * (k + 1)) a__law_sum_of v__law_sum_of ["rows"] (spF ⟨K, cA [C_Flip]⟩ (evF d_gl d_tb (k + 1)) "_law_sum_of" [false]) :=
  Z.f__law_sum_of.ok sc__law_sum_of (fun vs H Q E h => sp_len rfl h) fun cdv A outer s H vs Q E hr h => ⟨_, ((ss_cons (sm_set (set_of (sd_tup (pa_items_cons rfl (fun _ z => nomatch z) sd_int (pa_items_cons rfl (fun _ z => nomatch z) sd_int pa_items_nil))) fun h => ps_set (i := 1) sc__law_sum_of.nd rfl (by first | exact .inl rfl | exact .inr rfl) h))
  (ss_cons (sm_for PassesOwn.never rfl (it_seq rfl (sd_var (pv 0))) (tg_at (pg_name (i := 2) sc__law_sum_of.nd rfl (by first | exact .inl rfl | exact .inr rfl))) (ss_cons (sm_set (set_of (cl_any (CXX := CX0) (P := P) (w := w) R.o__law_add (hr2 hr) (by rfl) Z.g__law_add Z.f__law_add.kp Z.b__law_add (by decide +kernel) rfl rfl rfl (pa_args_val rfl rfl (sd_var (pv 1)) (pa_args_val rfl rfl (sd_var (pv 2)) pa_args_nil))) fun h => ps_set (i := 1) sc__law_sum_of.nd rfl (by first | exact .inl rfl | exact .inr rfl) h))
  ss_nil) (fun _ => rfl))
  (ss_cons (sm_ret (sd_var (pv 1)))
  ss_nil))) : PSs _ (defBody s__law_sum_of) (tSs ⟨K, cA [C_Flip]⟩ d_gl (evF d_gl d_tb k) d__law_sum_of.body)), fin_of h rfl rfl rfl⟩
theorem ok__law_greater (Z : Fx K mg C_Flip a_is_whole a_as_tuples a_lowest a_added a_times a_is_less a_Flip___init__ a_need_things a_known_places a_lot_chance_by a_chance_of_best a_chances_behind a_behind_chances a_greatest_chance a_best_start a_is_flip a_first_flip a_best_lots_many a__law_sum_of a__law_greater a__law_pen a__law_draw a__law_pick a__law_is a__law_gcd a__law_pair a__law_add a__law_mul a__law_below a__law_lots a__law_behind a__law_start a__law_best_of a_law v_is_whole v_as_tuples v_lowest v_added v_times v_is_less v_Flip___init__ v_need_things v_known_places v_lot_chance_by v_chance_of_best v_chances_behind v_behind_chances v_greatest_chance v_best_start v_is_flip v_first_flip v_best_lots_many v__law_sum_of v__law_greater v__law_pen v__law_draw v__law_pick v__law_is v__law_gcd v__law_pair v__law_add v__law_mul v__law_below v__law_lots v__law_behind v__law_start v__law_best_of v_law) (R : AllF P w K mg base k C_Flip a_is_whole a_as_tuples a_lowest a_added a_times a_is_less a_Flip___init__ a_need_things a_known_places a_lot_chance_by a_chance_of_best a_chances_behind a_behind_chances a_greatest_chance a_best_start a_is_flip a_first_flip a_best_lots_many a__law_sum_of a__law_greater a__law_pen a__law_draw a__law_pick a__law_is a__law_gcd a__law_pair a__law_add a__law_mul a__law_below a__law_lots a__law_behind a__law_start a__law_best_of a_law v_is_whole v_as_tuples v_lowest v_added v_times v_is_less v_Flip___init__ v_need_things v_known_places v_lot_chance_by v_chance_of_best v_chances_behind v_behind_chances v_greatest_chance v_best_start v_is_flip v_first_flip v_best_lots_many v__law_sum_of v__law_greater v__law_pen v__law_draw v__law_pick v__law_is v__law_gcd v__law_pair v__law_add v__law_mul v__law_below v__law_lots v__law_behind v__law_start v__law_best_of v_law) : FnOk P w K mg base CX0 (2 * (k + 1)) a__law_greater v__law_greater ["one", "other"] (spF ⟨K, cA [C_Flip]⟩ (evF d_gl d_tb (k + 1)) "_law_greater" [false, false]) :=
  Z.f__law_greater.ok sc__law_greater (fun vs H Q E h => sp_len rfl h) fun cdv A outer s H vs Q E hr h => ⟨_, ((ss_cons (sm_ret (sd_ite (st_plain rfl rfl (cl_any (CXX := CX0) (P := P) (w := w) R.o__law_below (hr2 hr) (by rfl) Z.g__law_below Z.f__law_below.kp Z.b__law_below (by decide +kernel) rfl rfl rfl (pa_args_val rfl rfl (sd_var (pv 0)) (pa_args_val rfl rfl (sd_var (pv 1)) pa_args_nil)))) (sd_var (pv 1)) (sd_var (pv 0))))
  ss_nil) : PSs _ (defBody s__law_greater) (tSs ⟨K, cA [C_Flip]⟩ d_gl (evF d_gl d_tb k) d__law_greater.body)), fin_of h rfl rfl rfl⟩
theorem ok__law_pen (Z : Fx K mg C_Flip a_is_whole a_as_tuples a_lowest a_added a_times a_is_less a_Flip___init__ a_need_things a_known_places a_lot_chance_by a_chance_of_best a_chances_behind a_behind_chances a_greatest_chance a_best_start a_is_flip a_first_flip a_best_lots_many a__law_sum_of a__law_greater a__law_pen a__law_draw a__law_pick a__law_is a__law_gcd a__law_pair a__law_add a__law_mul a__law_below a__law_lots a__law_behind a__law_start a__law_best_of a_law v_is_whole v_as_tuples v_lowest v_added v_times v_is_less v_Flip___init__ v_need_things v_known_places v_lot_chance_by v_chance_of_best v_chances_behind v_behind_chances v_greatest_chance v_best_start v_is_flip v_first_flip v_best_lots_many v__law_sum_of v__law_greater v__law_pen v__law_draw v__law_pick v__law_is v__law_gcd v__law_pair v__law_add v__law_mul v__law_below v__law_lots v__law_behind v__law_start v__law_best_of v_law) (R : AllF P w K mg base k C_Flip a_is_whole a_as_tuples a_lowest a_added a_times a_is_less a_Flip___init__ a_need_things a_known_places a_lot_chance_by a_chance_of_best a_chances_behind a_behind_chances a_greatest_chance a_best_start a_is_flip a_first_flip a_best_lots_many a__law_sum_of a__law_greater a__law_pen a__law_draw a__law_pick a__law_is a__law_gcd a__law_pair a__law_add a__law_mul a__law_below a__law_lots a__law_behind a__law_start a__law_best_of a_law v_is_whole v_as_tuples v_lowest v_added v_times v_is_less v_Flip___init__ v_need_things v_known_places v_lot_chance_by v_chance_of_best v_chances_behind v_behind_chances v_greatest_chance v_best_start v_is_flip v_first_flip v_best_lots_many v__law_sum_of v__law_greater v__law_pen v__law_draw v__law_pick v__law_is v__law_gcd v__law_pair v__law_add v__law_mul v__law_below v__law_lots v__law_behind v__law_start v__law_best_of v_law) : FnOk P w K mg base CX0 (2 * (k + 1)) a__law_pen v__law_pen ["script"] (spF ⟨K, cA [C_Flip]⟩ (evF d_gl d_tb (k + 1)) "_law_pen" [false]) :=
  Z.f__law_pen.ok sc__law_pen (fun vs H Q E h => sp_len rfl h) fun cdv A outer s H vs Q E hr h => ⟨_, ((ss_cons (sm_set (set_of sd_int fun h => ps_set (i := 1) sc__law_pen.nd rfl (by first | exact .inl rfl | exact .inr rfl) h))
  (ss_cons (sm_for PassesOwn.never rfl (it_seq rfl (sd_var (pv 0))) (tg_at (pg_name (i := 2) sc__law_pen.nd rfl (by first | exact .inl rfl | exact .inr rfl))) (ss_cons (sm_set (set_of (sd_bin (o := .mod) rfl (fn1 (b := .int) rfl rfl rfl (u64 hr) (by rfl) Z.z_int rfl (sd_bin (o := .add) rfl (sd_bin (o := .mul) rfl (sd_var (pv 1)) sd_int) (sd_var (pv 2)))) sd_int) fun h => ps_set (i := 1) sc__law_pen.nd rfl (by first | exact .inl rfl | exact .inr rfl) h))
  ss_nil) (fun _ => rfl))
  (ss_cons (sm_ret (sd_dct rfl rfl (by simp) (by decide) (by decide) (pps_cons' sd_str (fn1 (b := .list) rfl rfl rfl (u64 hr) (by rfl) Z.z_list rfl (sd_var (pv 0))) (pps_cons' sd_str sd_int (pps_cons' sd_str sd_int (pps_cons' sd_str sd_int (pps_cons' sd_str (sd_var (pv 1)) pps_nil')))))))
  ss_nil))) : PSs _ (defBody s__law_pen) (tSs ⟨K, cA [C_Flip]⟩ d_gl (evF d_gl d_tb k) d__law_pen.body)), fin_of h rfl rfl rfl⟩
theorem ok__law_draw (Z : Fx K mg C_Flip a_is_whole a_as_tuples a_lowest a_added a_times a_is_less a_Flip___init__ a_need_things a_known_places a_lot_chance_by a_chance_of_best a_chances_behind a_behind_chances a_greatest_chance a_best_start a_is_flip a_first_flip a_best_lots_many a__law_sum_of a__law_greater a__law_pen a__law_draw a__law_pick a__law_is a__law_gcd a__law_pair a__law_add a__law_mul a__law_below a__law_lots a__law_behind a__law_start a__law_best_of a_law v_is_whole v_as_tuples v_lowest v_added v_times v_is_less v_Flip___init__ v_need_things v_known_places v_lot_chance_by v_chance_of_best v_chances_behind v_behind_chances v_greatest_chance v_best_start v_is_flip v_first_flip v_best_lots_many v__law_sum_of v__law_greater v__law_pen v__law_draw v__law_pick v__law_is v__law_gcd v__law_pair v__law_add v__law_mul v__law_below v__law_lots v__law_behind v__law_start v__law_best_of v_law) (R : AllF P w K mg base k C_Flip a_is_whole a_as_tuples a_lowest a_added a_times a_is_less a_Flip___init__ a_need_things a_known_places a_lot_chance_by a_chance_of_best a_chances_behind a_behind_chances a_greatest_chance a_best_start a_is_flip a_first_flip a_best_lots_many a__law_sum_of a__law_greater a__law_pen a__law_draw a__law_pick a__law_is a__law_gcd a__law_pair a__law_add a__law_mul a__law_below a__law_lots a__law_behind a__law_start a__law_best_of a_law v_is_whole v_as_tuples v_lowest v_added v_times v_is_less v_Flip___init__ v_need_things v_known_places v_lot_chance_by v_chance_of_best v_chances_behind v_behind_chances v_greatest_chance v_best_start v_is_flip v_first_flip v_best_lots_many v__law_sum_of v__law_greater v__law_pen v__law_draw v__law_pick v__law_is v__law_gcd v__law_pair v__law_add v__law_mul v__law_below v__law_lots v__law_behind v__law_start v__law_best_of v_law) : FnOk P w K mg base CX0 (2 * (k + 1)) a__law_draw v__law_draw ["pen", "many"] (spF ⟨K, cA [C_Flip]⟩ (evF d_gl d_tb (k + 1)) "_law_draw" [true, false]) :=
  Z.f__law_draw.ok sc__law_draw (fun vs H Q E h => sp_len rfl h) fun cdv A outer s H vs Q E hr h => ⟨_, ((ss_cons (sm_setIx (u1 hr) (pv 0) sd_str (sd_bin (o := .add) rfl (sd_ix rfl (u65 hr) rfl (sd_var (pv 0)) sd_str) sd_int) (by rfl) (by rfl) rfl (fun _ => rfl))
  (ss_cons (sm_if (st_tand (pw_tandC (st_cmp (o := .eq) rfl (u65 hr) (sd_ix rfl (u65 hr) rfl (sd_var (pv 0)) sd_str) sd_int) (pw_tand1 (st_cmp (o := .lt) rfl (u65 hr) (sd_ix rfl (u65 hr) rfl (sd_var (pv 0)) sd_str) (fn1 (b := .len) rfl rfl rfl (u64 hr) (by rfl) Z.z_len rfl (sd_ix rfl (u65 hr) rfl (sd_var (pv 0)) sd_str)))))) (ss_cons (sm_set (set_of (sd_ix rfl (u65 hr) rfl (sd_ix rfl (u65 hr) rfl (sd_var (pv 0)) sd_str) (sd_ix rfl (u65 hr) rfl (sd_var (pv 0)) sd_str)) fun h => ps_set (i := 3) sc__law_draw.nd rfl (by first | exact .inl rfl | exact .inr rfl) h))
  (ss_cons (sm_setIx (u1 hr) (pv 0) sd_str (sd_bin (o := .add) rfl (sd_ix rfl (u65 hr) rfl (sd_var (pv 0)) sd_str) sd_int) (by rfl) (by rfl) rfl (fun _ => rfl))
  (ss_cons (sm_if (st_cmp (o := .ge) rfl (u65 hr) (sd_var (pv 3)) (sd_bin (o := .pow) rfl sd_int sd_int)) (ss_cons (sm_setIx (u1 hr) (pv 0) sd_str (sd_bin (o := .sub) rfl (sd_var (pv 3)) (sd_bin (o := .pow) rfl sd_int sd_int)) (by rfl) (by rfl) rfl (fun _ => rfl))
  ss_nil) (ss_cons (sm_setIx (u1 hr) (pv 0) sd_str (sd_bin (o := .mod) rfl (fn1 (b := .int) rfl rfl rfl (u64 hr) (by rfl) Z.z_int rfl (sd_bin (o := .add) rfl (sd_bin (o := .mul) rfl (sd_ix rfl (u65 hr) rfl (sd_var (pv 0)) sd_str) sd_int) (sd_var (pv 3)))) sd_int) (by rfl) (by rfl) rfl (fun _ => rfl))
  ss_nil))
  ss_nil))) ss_nil)
  (ss_cons (sm_if (st_cmp (o := .gt) rfl (u65 hr) (sd_ix rfl (u65 hr) rfl (sd_var (pv 0)) sd_str) sd_int) (ss_cons (sm_set (set_of (sd_bin (o := .mod) rfl (fn1 (b := .int) rfl rfl rfl (u64 hr) (by rfl) Z.z_int rfl (sd_ix rfl (u65 hr) rfl (sd_var (pv 0)) sd_str)) (sd_var (pv 1))) fun h => ps_set (i := 4) sc__law_draw.nd rfl (by first | exact .inl rfl | exact .inr rfl) h))
  (ss_cons (sm_setIx (u1 hr) (pv 0) sd_str (sd_bin (o := .fdiv) rfl (sd_ix rfl (u65 hr) rfl (sd_var (pv 0)) sd_str) (sd_var (pv 1))) (by rfl) (by rfl) rfl (fun _ => rfl))
  (ss_cons (sm_ret (sd_var (pv 4)))
  ss_nil))) ss_nil)
  (ss_cons (sm_set (set_of (sd_bin (o := .mod) rfl (fn1 (b := .int) rfl rfl rfl (u64 hr) (by rfl) Z.z_int rfl (sd_bin (o := .add) rfl (sd_bin (o := .add) rfl (sd_bin (o := .mul) rfl (sd_ix rfl (u65 hr) rfl (sd_var (pv 0)) sd_str) sd_int) (sd_bin (o := .mul) rfl (sd_ix rfl (u65 hr) rfl (sd_var (pv 0)) sd_str) sd_int)) sd_int)) sd_int) fun h => ps_set (i := 2) sc__law_draw.nd rfl (by first | exact .inl rfl | exact .inr rfl) h))
  (ss_cons (sm_set (set_of (sd_bin (o := .mod) rfl (fn1 (b := .int) rfl rfl rfl (u64 hr) (by rfl) Z.z_int rfl (sd_bin (o := .add) rfl (sd_bin (o := .add) rfl (sd_bin (o := .mul) rfl (sd_var (pv 2)) (sd_var (pv 2))) (sd_bin (o := .mul) rfl sd_int (sd_var (pv 2)))) (sd_ix rfl (u65 hr) rfl (sd_var (pv 0)) sd_str))) sd_int) fun h => ps_set (i := 2) sc__law_draw.nd rfl (by first | exact .inl rfl | exact .inr rfl) h))
  (ss_cons (sm_setIx (u1 hr) (pv 0) sd_str (sd_bin (o := .mod) rfl (fn1 (b := .int) rfl rfl rfl (u64 hr) (by rfl) Z.z_int rfl (sd_bin (o := .add) rfl (sd_bin (o := .mul) rfl (sd_var (pv 2)) sd_int) sd_int)) sd_int) (by rfl) (by rfl) rfl (fun _ => rfl))
  (ss_cons (sm_ret (sd_bin (o := .mod) rfl (fn1 (b := .int) rfl rfl rfl (u64 hr) (by rfl) Z.z_int rfl (sd_bin (o := .fdiv) rfl (sd_var (pv 2)) sd_int)) (sd_var (pv 1))))
  ss_nil))))))) : PSs _ (defBody s__law_draw) (tSs ⟨K, cA [C_Flip]⟩ d_gl (evF d_gl d_tb k) d__law_draw.body)), fin_of h rfl rfl rfl⟩
theorem ok__law_pick (Z : Fx K mg C_Flip a_is_whole a_as_tuples a_lowest a_added a_times a_is_less a_Flip___init__ a_need_things a_known_places a_lot_chance_by a_chance_of_best a_chances_behind a_behind_chances a_greatest_chance a_best_start a_is_flip a_first_flip a_best_lots_many a__law_sum_of a__law_greater a__law_pen a__law_draw a__law_pick a__law_is a__law_gcd a__law_pair a__law_add a__law_mul a__law_below a__law_lots a__law_behind a__law_start a__law_best_of a_law v_is_whole v_as_tuples v_lowest v_added v_times v_is_less v_Flip___init__ v_need_things v_known_places v_lot_chance_by v_chance_of_best v_chances_behind v_behind_chances v_greatest_chance v_best_start v_is_flip v_first_flip v_best_lots_many v__law_sum_of v__law_greater v__law_pen v__law_draw v__law_pick v__law_is v__law_gcd v__law_pair v__law_add v__law_mul v__law_below v__law_lots v__law_behind v__law_start v__law_best_of v_law) (R : AllF P w K mg base k C_Flip a_is_whole a_as_tuples a_lowest a_added a_times a_is_less a_Flip___init__ a_need_things a_known_places a_lot_chance_by a_chance_of_best a_chances_behind a_behind_chances a_greatest_chance a_best_start a_is_flip a_first_flip a_best_lots_many a__law_sum_of a__law_greater a__law_pen a__law_draw a__law_pick a__law_is a__law_gcd a__law_pair a__law_add a__law_mul a__law_below a__law_lots a__law_behind a__law_start a__law_best_of a_law v_is_whole v_as_tuples v_lowest v_added v_times v_is_less v_Flip___init__ v_need_things v_known_places v_lot_chance_by v_chance_of_best v_chances_behind v_behind_chances v_greatest_chance v_best_start v_is_flip v_first_flip v_best_lots_many v__law_sum_of v__law_greater v__law_pen v__law_draw v__law_pick v__law_is v__law_gcd v__law_pair v__law_add v__law_mul v__law_below v__law_lots v__law_behind v__law_start v__law_best_of v_law) : FnOk P w K mg base CX0 (2 * (k + 1)) a__law_pick v__law_pick ["pen", "some"] (spF ⟨K, cA [C_Flip]⟩ (evF d_gl d_tb (k + 1)) "_law_pick" [true, false]) :=
  Z.f__law_pick.ok sc__law_pick (fun vs H Q E h => sp_len rfl h) fun cdv A outer s H vs Q E hr h => ⟨_, ((ss_cons (sm_ret (sd_ix rfl (u65 hr) rfl (sd_var (pv 1)) (cl_any (CXX := CX0) (P := P) (w := w) R.o__law_draw (hr2 hr) (by rfl) Z.g__law_draw Z.f__law_draw.kp Z.b__law_draw (by decide +kernel) rfl rfl rfl (pa_args_bor rfl rfl (pv 0) (pa_args_val rfl rfl (fn1 (b := .len) rfl rfl rfl (u64 hr) (by rfl) Z.z_len rfl (sd_var (pv 1))) pa_args_nil)))))
  ss_nil) : PSs _ (defBody s__law_pick) (tSs ⟨K, cA [C_Flip]⟩ d_gl (evF d_gl d_tb k) d__law_pick.body)), fin_of h rfl rfl rfl⟩
theorem ok__law_is (Z : Fx K mg C_Flip a_is_whole a_as_tuples a_lowest a_added a_times a_is_less a_Flip___init__ a_need_things a_known_places a_lot_chance_by a_chance_of_best a_chances_behind a_behind_chances a_greatest_chance a_best_start a_is_flip a_first_flip a_best_lots_many a__law_sum_of a__law_greater a__law_pen a__law_draw a__law_pick a__law_is a__law_gcd a__law_pair a__law_add a__law_mul a__law_below a__law_lots a__law_behind a__law_start a__law_best_of a_law v_is_whole v_as_tuples v_lowest v_added v_times v_is_less v_Flip___init__ v_need_things v_known_places v_lot_chance_by v_chance_of_best v_chances_behind v_behind_chances v_greatest_chance v_best_start v_is_flip v_first_flip v_best_lots_many v__law_sum_of v__law_greater v__law_pen v__law_draw v__law_pick v__law_is v__law_gcd v__law_pair v__law_add v__law_mul v__law_below v__law_lots v__law_behind v__law_start v__law_best_of v_law) (R : AllF P w K mg base k C_Flip a_is_whole a_as_tuples a_lowest a_added a_times a_is_less a_Flip___init__ a_need_things a_known_places a_lot_chance_by a_chance_of_best a_chances_behind a_behind_chances a_greatest_chance a_best_start a_is_flip a_first_flip a_best_lots_many a__law_sum_of a__law_greater a__law_pen a__law_draw a__law_pick a__law_is a__law_gcd a__law_pair a__law_add a__law_mul a__law_below a__law_lots a__law_behind a__law_start a__law_best_of a_law v_is_whole v_as_tuples v_lowest v_added v_times v_is_less v_Flip___init__ v_need_things v_known_places v_lot_chance_by v_chance_of_best v_chances_behind v_behind_chances v_greatest_chance v_best_start v_is_flip v_first_flip v_best_lots_many v__law_sum_of v__law_greater v__law_pen v__law_draw v__law_pick v__law_is v__law_gcd v__law_pair v__law_add v__law_mul v__law_below v__law_lots v__law_behind v__law_start v__law_best_of v_law) : FnOk P w K mg base CX0 (2 * (k + 1)) a__law_is v__law_is ["told", "due"] (spF ⟨K, cA [C_Flip]⟩ (evF d_gl d_tb (k + 1)) "_law_is" [false, false]) :=
  Z.f__law_is.ok sc__law_is (fun vs H Q E h => sp_len rfl h) fun cdv A outer s H vs Q E hr h => ⟨_, ((ss_cons (sm_if (st_plain rfl rfl (isa1 rfl Z.cls (by rfl) Z.z_isinstance rfl rfl rfl (sd_var (pv 1)) (ty_tuple (by rfl) Z.z_tuple))) (ss_cons (sm_if (st_tor (pw_torC (st_not (st_plain rfl rfl (isa1 rfl Z.cls (by rfl) Z.z_isinstance rfl rfl rfl (sd_var (pv 0)) (ty_tuple (by rfl) Z.z_tuple)))) (pw_tor1 (st_cmp (o := .ne) rfl (u65 hr) (fn1 (b := .len) rfl rfl rfl (u64 hr) (by rfl) Z.z_len rfl (sd_var (pv 0))) (fn1 (b := .len) rfl rfl rfl (u64 hr) (by rfl) Z.z_len rfl (sd_var (pv 1))))))) (ss_cons (sm_ret sd_bl)
  ss_nil) ss_nil)
  (ss_cons (sm_ret (sd_cmp (o := .eq) rfl (u64 hr) (sd_comp rfl sc__law_is.nd ⟨by decide, (it_rng1 (by rfl) Z.z_range rfl (fn1 (b := .len) rfl rfl rfl (u64 hr) (by rfl) Z.z_len rfl (sd_var (pv 1)))), ⟨[("at", 2)], rfl, blk_mk rfl⟩, fun _ _ _ _ _ => (tg_at (pg_name (i := 2) sc__law_is.nd rfl (by first | exact .inl rfl | exact .inr rfl))), fun _ _ _ _ _ => (pts_one' (st_not (st_plain rfl rfl (cl_any (CXX := CX0) (P := P) (w := w) R.o__law_is (hr2 hr) (by rfl) Z.g__law_is Z.f__law_is.kp Z.b__law_is (by decide +kernel) rfl rfl rfl (pa_args_val rfl rfl (sd_ix rfl (u65 hr) rfl (sd_var (pv 0)) (sd_var (pv 2))) (pa_args_val rfl rfl (sd_ix rfl (u65 hr) rfl (sd_var (pv 1)) (sd_var (pv 2))) pa_args_nil)))))), fun _ _ _ _ _ => (Sd.kept (sd_var (pv 2))), fun _ => rfl⟩) (sd_lst pa_items_nil)))
  ss_nil)) ss_nil)
  (ss_cons (sm_if (st_isn (sd_var (pv 1))) (ss_cons (sm_ret (sd_isn (sd_var (pv 0))))
  ss_nil) ss_nil)
  (ss_cons (sm_if (st_isb (sd_var (pv 1))) (ss_cons (sm_ret (sd_isb (sd_var (pv 0))))
  ss_nil) ss_nil)
  (ss_cons (sm_if (st_isb (sd_var (pv 1))) (ss_cons (sm_ret (sd_isb (sd_var (pv 0))))
  ss_nil) ss_nil)
  (ss_cons (sm_if (st_plain rfl rfl (isa1 rfl Z.cls (by rfl) Z.z_isinstance rfl rfl rfl (sd_var (pv 1)) (ty_str (by rfl) Z.z_str))) (ss_cons (sm_ret (sd_and (pe_andC (isa1 rfl Z.cls (by rfl) Z.z_isinstance rfl rfl rfl (sd_var (pv 0)) (ty_str (by rfl) Z.z_str)) (pe_and1 (sd_cmp (o := .eq) rfl (u64 hr) (sd_var (pv 0)) (sd_var (pv 1)))))))
  ss_nil) ss_nil)
  (ss_cons (sm_ret (sd_and (pe_andC (isa1 rfl Z.cls (by rfl) Z.z_isinstance rfl rfl rfl (sd_var (pv 0)) (ty_int (by rfl) Z.z_int)) (pe_andC (sd_not rfl (isa1 rfl Z.cls (by rfl) Z.z_isinstance rfl rfl rfl (sd_var (pv 0)) (ty_bool (by rfl) Z.z_bool))) (pe_and1 (sd_cmp (o := .eq) rfl (u64 hr) (sd_var (pv 0)) (sd_var (pv 1))))))))
  ss_nil)))))) : PSs _ (defBody s__law_is) (tSs ⟨K, cA [C_Flip]⟩ d_gl (evF d_gl d_tb k) d__law_is.body)), fin_of h rfl rfl rfl⟩
theorem ok__law_gcd (Z : Fx K mg C_Flip a_is_whole a_as_tuples a_lowest a_added a_times a_is_less a_Flip___init__ a_need_things a_known_places a_lot_chance_by a_chance_of_best a_chances_behind a_behind_chances a_greatest_chance a_best_start a_is_flip a_first_flip a_best_lots_many a__law_sum_of a__law_greater a__law_pen a__law_draw a__law_pick a__law_is a__law_gcd a__law_pair a__law_add a__law_mul a__law_below a__law_lots a__law_behind a__law_start a__law_best_of a_law v_is_whole v_as_tuples v_lowest v_added v_times v_is_less v_Flip___init__ v_need_things v_known_places v_lot_chance_by v_chance_of_best v_chances_behind v_behind_chances v_greatest_chance v_best_start v_is_flip v_first_flip v_best_lots_many v__law_sum_of v__law_greater v__law_pen v__law_draw v__law_pick v__law_is v__law_gcd v__law_pair v__law_add v__law_mul v__law_below v__law_lots v__law_behind v__law_start v__law_best_of v_law) (R : AllF P w K mg base k C_Flip a_is_whole a_as_tuples a_lowest a_added a_times a_is_less a_Flip___init__ a_need_things a_known_places a_lot_chance_by a_chance_of_best a_chances_behind a_behind_chances a_greatest_chance a_best_start a_is_flip a_first_flip a_best_lots_many a__law_sum_of a__law_greater a__law_pen a__law_draw a__law_pick a__law_is a__law_gcd a__law_pair a__law_add a__law_mul a__law_below a__law_lots a__law_behind a__law_start a__law_best_of a_law v_is_whole v_as_tuples v_lowest v_added v_times v_is_less v_Flip___init__ v_need_things v_known_places v_lot_chance_by v_chance_of_best v_chances_behind v_behind_chances v_greatest_chance v_best_start v_is_flip v_first_flip v_best_lots_many v__law_sum_of v__law_greater v__law_pen v__law_draw v__law_pick v__law_is v__law_gcd v__law_pair v__law_add v__law_mul v__law_below v__law_lots v__law_behind v__law_start v__law_best_of v_law) : FnOk P w K mg base CX0 (2 * (k + 1)) a__law_gcd v__law_gcd ["one", "other"] (spF ⟨K, cA [C_Flip]⟩ (evF d_gl d_tb (k + 1)) "_law_gcd" [false, false]) :=
  Z.f__law_gcd.ok sc__law_gcd (fun vs H Q E h => sp_len rfl h) fun cdv A outer s H vs Q E hr h => ⟨_, ((ss_cons (sm_par (par_swap2 (ps_par (i := 0) (j := 1) rfl sc__law_gcd.nd rfl rfl (by decide) rfl rfl (pa_news_cons rfl (fn1 (b := .abs) rfl rfl rfl (u64 hr) (by rfl) Z.z_abs rfl (sd_var (pv 0))) (pa_news_cons rfl (fn1 (b := .abs) rfl rfl rfl (u64 hr) (by rfl) Z.z_abs rfl (sd_var (pv 1))) pa_news_nil)) (by rfl) (by rfl))))
  (ss_cons (sm_while PassesOwn.never (st_cmp (o := .ne) rfl (u65 hr) (sd_var (pv 1)) sd_int) (ss_cons (sm_par (par_swap2 (ps_par (i := 0) (j := 1) rfl sc__law_gcd.nd rfl rfl (by decide) rfl rfl (pa_news_cons rfl (sd_var (pv 1)) (pa_news_cons rfl (sd_bin (o := .mod) rfl (fn1 (b := .int) rfl rfl rfl (u64 hr) (by rfl) Z.z_int rfl (sd_var (pv 0))) (sd_var (pv 1))) pa_news_nil)) (by rfl) (by rfl))))
  ss_nil))
  (ss_cons (sm_ret (sd_var (pv 0)))
  ss_nil))) : PSs _ (defBody s__law_gcd) (tSs ⟨K, cA [C_Flip]⟩ d_gl (evF d_gl d_tb k) d__law_gcd.body)), fin_of h rfl rfl rfl⟩
theorem ok__law_pair (Z : Fx K mg C_Flip a_is_whole a_as_tuples a_lowest a_added a_times a_is_less a_Flip___init__ a_need_things a_known_places a_lot_chance_by a_chance_of_best a_chances_behind a_behind_chances a_greatest_chance a_best_start a_is_flip a_first_flip a_best_lots_many a__law_sum_of a__law_greater a__law_pen a__law_draw a__law_pick a__law_is a__law_gcd a__law_pair a__law_add a__law_mul a__law_below a__law_lots a__law_behind a__law_start a__law_best_of a_law v_is_whole v_as_tuples v_lowest v_added v_times v_is_less v_Flip___init__ v_need_things v_known_places v_lot_chance_by v_chance_of_best v_chances_behind v_behind_chances v_greatest_chance v_best_start v_is_flip v_first_flip v_best_lots_many v__law_sum_of v__law_greater v__law_pen v__law_draw v__law_pick v__law_is v__law_gcd v__law_pair v__law_add v__law_mul v__law_below v__law_lots v__law_behind v__law_start v__law_best_of v_law) (R : AllF P w K mg base k C_Flip a_is_whole a_as_tuples a_lowest a_added a_times a_is_less a_Flip___init__ a_need_things a_known_places a_lot_chance_by a_chance_of_best a_chances_behind a_behind_chances a_greatest_chance a_best_start a_is_flip a_first_flip a_best_lots_many a__law_sum_of a__law_greater a__law_pen a__law_draw a__law_pick a__law_is a__law_gcd a__law_pair a__law_add a__law_mul a__law_below a__law_lots a__law_behind a__law_start a__law_best_of a_law v_is_whole v_as_tuples v_lowest v_added v_times v_is_less v_Flip___init__ v_need_things v_known_places v_lot_chance_by v_chance_of_best v_chances_behind v_behind_chances v_greatest_chance v_best_start v_is_flip v_first_flip v_best_lots_many v__law_sum_of v__law_greater v__law_pen v__law_draw v__law_pick v__law_is v__law_gcd v__law_pair v__law_add v__law_mul v__law_below v__law_lots v__law_behind v__law_start v__law_best_of v_law) : FnOk P w K mg base CX0 (2 * (k + 1)) a__law_pair v__law_pair ["top", "bottom"] (spF ⟨K, cA [C_Flip]⟩ (evF d_gl d_tb (k + 1)) "_law_pair" [false, false]) :=
  Z.f__law_pair.ok sc__law_pair (fun vs H Q E h => sp_len rfl h) fun cdv A outer s H vs Q E hr h => ⟨_, ((ss_cons (sm_set (set_of (cl_any (CXX := CX0) (P := P) (w := w) R.o__law_gcd (hr2 hr) (by rfl) Z.g__law_gcd Z.f__law_gcd.kp Z.b__law_gcd (by decide +kernel) rfl rfl rfl (pa_args_val rfl rfl (sd_var (pv 0)) (pa_args_val rfl rfl (sd_var (pv 1)) pa_args_nil))) fun h => ps_set (i := 2) sc__law_pair.nd rfl (by first | exact .inl rfl | exact .inr rfl) h))
  (ss_cons (sm_set (set_of (sd_ite (st_cmp (o := .gt) rfl (u65 hr) (sd_var (pv 1)) sd_int) (sd_var (pv 2)) (sd_neg (sd_var (pv 2)))) fun h => ps_set (i := 2) sc__law_pair.nd rfl (by first | exact .inl rfl | exact .inr rfl) h))
  (ss_cons (sm_ret (sd_tup (pa_items_cons rfl (fun _ z => nomatch z) (sd_bin (o := .fdiv) rfl (fn1 (b := .int) rfl rfl rfl (u64 hr) (by rfl) Z.z_int rfl (sd_var (pv 0))) (sd_var (pv 2))) (pa_items_cons rfl (fun _ z => nomatch z) (sd_bin (o := .fdiv) rfl (fn1 (b := .int) rfl rfl rfl (u64 hr) (by rfl) Z.z_int rfl (sd_var (pv 1))) (sd_var (pv 2))) pa_items_nil))))
  ss_nil))) : PSs _ (defBody s__law_pair) (tSs ⟨K, cA [C_Flip]⟩ d_gl (evF d_gl d_tb k) d__law_pair.body)), fin_of h rfl rfl rfl⟩
theorem ok__law_add (Z : Fx K mg C_Flip a_is_whole a_as_tuples a_lowest a_added a_times a_is_less a_Flip___init__ a_need_things a_known_places a_lot_chance_by a_chance_of_best a_chances_behind a_behind_chances a_greatest_chance a_best_start a_is_flip a_first_flip a_best_lots_many a__law_sum_of a__law_greater a__law_pen a__law_draw a__law_pick a__law_is a__law_gcd a__law_pair a__law_add a__law_mul a__law_below a__law_lots a__law_behind a__law_start a__law_best_of a_law v_is_whole v_as_tuples v_lowest v_added v_times v_is_less v_Flip___init__ v_need_things v_known_places v_lot_chance_by v_chance_of_best v_chances_behind v_behind_chances v_greatest_chance v_best_start v_is_flip v_first_flip v_best_lots_many v__law_sum_of v__law_greater v__law_pen v__law_draw v__law_pick v__law_is v__law_gcd v__law_pair v__law_add v__law_mul v__law_below v__law_lots v__law_behind v__law_start v__law_best_of v_law) (R : AllF P w K mg base k C_Flip a_is_whole a_as_tuples a_lowest a_added a_times a_is_less a_Flip___init__ a_need_things a_known_places a_lot_chance_by a_chance_of_best a_chances_behind a_behind_chances a_greatest_chance a_best_start a_is_flip a_first_flip a_best_lots_many a__law_sum_of a__law_greater a__law_pen a__law_draw a__law_pick a__law_is a__law_gcd a__law_pair a__law_add a__law_mul a__law_below a__law_lots a__law_behind a__law_start a__law_best_of a_law v_is_whole v_as_tuples v_lowest v_added v_times v_is_less v_Flip___init__ v_need_things v_known_places v_lot_chance_by v_chance_of_best v_chances_behind v_behind_chances v_greatest_chance v_best_start v_is_flip v_first_flip v_best_lots_many v__law_sum_of v__law_greater v__law_pen v__law_draw v__law_pick v__law_is v__law_gcd v__law_pair v__law_add v__law_mul v__law_below v__law_lots v__law_behind v__law_start v__law_best_of v_law) : FnOk P w K mg base CX0 (2 * (k + 1)) a__law_add v__law_add ["one", "other"] (spF ⟨K, cA [C_Flip]⟩ (evF d_gl d_tb (k + 1)) "_law_add" [false, false]) :=
  Z.f__law_add.ok sc__law_add (fun vs H Q E h => sp_len rfl h) fun cdv A outer s H vs Q E hr h => ⟨_, ((ss_cons (sm_ret (cl_any (CXX := CX0) (P := P) (w := w) R.o__law_pair (hr2 hr) (by rfl) Z.g__law_pair Z.f__law_pair.kp Z.b__law_pair (by decide +kernel) rfl rfl rfl (pa_args_val rfl rfl (sd_bin (o := .add) rfl (sd_bin (o := .mul) rfl (sd_ix rfl (u65 hr) rfl (sd_var (pv 0)) sd_int) (sd_ix rfl (u65 hr) rfl (sd_var (pv 1)) sd_int)) (sd_bin (o := .mul) rfl (sd_ix rfl (u65 hr) rfl (sd_var (pv 1)) sd_int) (sd_ix rfl (u65 hr) rfl (sd_var (pv 0)) sd_int))) (pa_args_val rfl rfl (sd_bin (o := .mul) rfl (sd_ix rfl (u65 hr) rfl (sd_var (pv 0)) sd_int) (sd_ix rfl (u65 hr) rfl (sd_var (pv 1)) sd_int)) pa_args_nil))))
  ss_nil) : PSs _ (defBody s__law_add) (tSs ⟨K, cA [C_Flip]⟩ d_gl (evF d_gl d_tb k) d__law_add.body)), fin_of h rfl rfl rfl⟩
theorem ok__law_mul (Z : Fx K mg C_Flip a_is_whole a_as_tuples a_lowest a_added a_times a_is_less a_Flip___init__ a_need_things a_known_places a_lot_chance_by a_chance_of_best a_chances_behind a_behind_chances a_greatest_chance a_best_start a_is_flip a_first_flip a_best_lots_many a__law_sum_of a__law_greater a__law_pen a__law_draw a__law_pick a__law_is a__law_gcd a__law_pair a__law_add a__law_mul a__law_below a__law_lots a__law_behind a__law_start a__law_best_of a_law v_is_whole v_as_tuples v_lowest v_added v_times v_is_less v_Flip___init__ v_need_things v_known_places v_lot_chance_by v_chance_of_best v_chances_behind v_behind_chances v_greatest_chance v_best_start v_is_flip v_first_flip v_best_lots_many v__law_sum_of v__law_greater v__law_pen v__law_draw v__law_pick v__law_is v__law_gcd v__law_pair v__law_add v__law_mul v__law_below v__law_lots v__law_behind v__law_start v__law_best_of v_law) (R : AllF P w K mg base k C_Flip a_is_whole a_as_tuples a_lowest a_added a_times a_is_less a_Flip___init__ a_need_things a_known_places a_lot_chance_by a_chance_of_best a_chances_behind a_behind_chances a_greatest_chance a_best_start a_is_flip a_first_flip a_best_lots_many a__law_sum_of a__law_greater a__law_pen a__law_draw a__law_pick a__law_is a__law_gcd a__law_pair a__law_add a__law_mul a__law_below a__law_lots a__law_behind a__law_start a__law_best_of a_law v_is_whole v_as_tuples v_lowest v_added v_times v_is_less v_Flip___init__ v_need_things v_known_places v_lot_chance_by v_chance_of_best v_chances_behind v_behind_chances v_greatest_chance v_best_start v_is_flip v_first_flip v_best_lots_many v__law_sum_of v__law_greater v__law_pen v__law_draw v__law_pick v__law_is v__law_gcd v__law_pair v__law_add v__law_mul v__law_below v__law_lots v__law_behind v__law_start v__law_best_of v_law) : FnOk P w K mg base CX0 (2 * (k + 1)) a__law_mul v__law_mul ["one", "other"] (spF ⟨K, cA [C_Flip]⟩ (evF d_gl d_tb (k + 1)) "_law_mul" [false, false]) :=
  Z.f__law_mul.ok sc__law_mul (fun vs H Q E h => sp_len rfl h) fun cdv A outer s H vs Q E hr h => ⟨_, ((ss_cons (sm_ret (cl_any (CXX := CX0) (P := P) (w := w) R.o__law_pair (hr2 hr) (by rfl) Z.g__law_pair Z.f__law_pair.kp Z.b__law_pair (by decide +kernel) rfl rfl rfl (pa_args_val rfl rfl (sd_bin (o := .mul) rfl (sd_ix rfl (u65 hr) rfl (sd_var (pv 0)) sd_int) (sd_ix rfl (u65 hr) rfl (sd_var (pv 1)) sd_int)) (pa_args_val rfl rfl (sd_bin (o := .mul) rfl (sd_ix rfl (u65 hr) rfl (sd_var (pv 0)) sd_int) (sd_ix rfl (u65 hr) rfl (sd_var (pv 1)) sd_int)) pa_args_nil))))
  ss_nil) : PSs _ (defBody s__law_mul) (tSs ⟨K, cA [C_Flip]⟩ d_gl (evF d_gl d_tb k) d__law_mul.body)), fin_of h rfl rfl rfl⟩
theorem ok__law_below (Z : Fx K mg C_Flip a_is_whole a_as_tuples a_lowest a_added a_times a_is_less a_Flip___init__ a_need_things a_known_places a_lot_chance_by a_chance_of_best a_chances_behind a_behind_chances a_greatest_chance a_best_start a_is_flip a_first_flip a_best_lots_many a__law_sum_of a__law_greater a__law_pen a__law_draw a__law_pick a__law_is a__law_gcd a__law_pair a__law_add a__law_mul a__law_below a__law_lots a__law_behind a__law_start a__law_best_of a_law v_is_whole v_as_tuples v_lowest v_added v_times v_is_less v_Flip___init__ v_need_things v_known_places v_lot_chance_by v_chance_of_best v_chances_behind v_behind_chances v_greatest_chance v_best_start v_is_flip v_first_flip v_best_lots_many v__law_sum_of v__law_greater v__law_pen v__law_draw v__law_pick v__law_is v__law_gcd v__law_pair v__law_add v__law_mul v__law_below v__law_lots v__law_behind v__law_start v__law_best_of v_law) (R : AllF P w K mg base k C_Flip a_is_whole a_as_tuples a_lowest a_added a_times a_is_less a_Flip___init__ a_need_things a_known_places a_lot_chance_by a_chance_of_best a_chances_behind a_behind_chances a_greatest_chance a_best_start a_is_flip a_first_flip a_best_lots_many a__law_sum_of a__law_greater a__law_pen a__law_draw a__law_pick a__law_is a__law_gcd a__law_pair a__law_add a__law_mul a__law_below a__law_lots a__law_behind a__law_start a__law_best_of a_law v_is_whole v_as_tuples v_lowest v_added v_times v_is_less v_Flip___init__ v_need_things v_known_places v_lot_chance_by v_chance_of_best v_chances_behind v_behind_chances v_greatest_chance v_best_start v_is_flip v_first_flip v_best_lots_many v__law_sum_of v__law_greater v__law_pen v__law_draw v__law_pick v__law_is v__law_gcd v__law_pair v__law_add v__law_mul v__law_below v__law_lots v__law_behind v__law_start v__law_best_of v_law) : FnOk P w K mg base CX0 (2 * (k + 1)) a__law_below v__law_below ["one", "other"] (spF ⟨K, cA [C_Flip]⟩ (evF d_gl d_tb (k + 1)) "_law_below" [false, false]) :=
  Z.f__law_below.ok sc__law_below (fun vs H Q E h => sp_len rfl h) fun cdv A outer s H vs Q E hr h => ⟨_, ((ss_cons (sm_ret (sd_cmp (o := .lt) rfl (u64 hr) (sd_bin (o := .mul) rfl (sd_ix rfl (u65 hr) rfl (sd_var (pv 0)) sd_int) (sd_ix rfl (u65 hr) rfl (sd_var (pv 1)) sd_int)) (sd_bin (o := .mul) rfl (sd_ix rfl (u65 hr) rfl (sd_var (pv 1)) sd_int) (sd_ix rfl (u65 hr) rfl (sd_var (pv 0)) sd_int))))
  ss_nil) : PSs _ (defBody s__law_below) (tSs ⟨K, cA [C_Flip]⟩ d_gl (evF d_gl d_tb k) d__law_below.body)), fin_of h rfl rfl rfl⟩
theorem ok__law_lots (Z : Fx K mg C_Flip a_is_whole a_as_tuples a_lowest a_added a_times a_is_less a_Flip___init__ a_need_things a_known_places a_lot_chance_by a_chance_of_best a_chances_behind a_behind_chances a_greatest_chance a_best_start a_is_flip a_first_flip a_best_lots_many a__law_sum_of a__law_greater a__law_pen a__law_draw a__law_pick a__law_is a__law_gcd a__law_pair a__law_add a__law_mul a__law_below a__law_lots a__law_behind a__law_start a__law_best_of a_law v_is_whole v_as_tuples v_lowest v_added v_times v_is_less v_Flip___init__ v_need_things v_known_places v_lot_chance_by v_chance_of_best v_chances_behind v_behind_chances v_greatest_chance v_best_start v_is_flip v_first_flip v_best_lots_many v__law_sum_of v__law_greater v__law_pen v__law_draw v__law_pick v__law_is v__law_gcd v__law_pair v__law_add v__law_mul v__law_below v__law_lots v__law_behind v__law_start v__law_best_of v_law) (R : AllF P w K mg base k C_Flip a_is_whole a_as_tuples a_lowest a_added a_times a_is_less a_Flip___init__ a_need_things a_known_places a_lot_chance_by a_chance_of_best a_chances_behind a_behind_chances a_greatest_chance a_best_start a_is_flip a_first_flip a_best_lots_many a__law_sum_of a__law_greater a__law_pen a__law_draw a__law_pick a__law_is a__law_gcd a__law_pair a__law_add a__law_mul a__law_below a__law_lots a__law_behind a__law_start a__law_best_of a_law v_is_whole v_as_tuples v_lowest v_added v_times v_is_less v_Flip___init__ v_need_things v_known_places v_lot_chance_by v_chance_of_best v_chances_behind v_behind_chances v_greatest_chance v_best_start v_is_flip v_first_flip v_best_lots_many v__law_sum_of v__law_greater v__law_pen v__law_draw v__law_pick v__law_is v__law_gcd v__law_pair v__law_add v__law_mul v__law_below v__law_lots v__law_behind v__law_start v__law_best_of v_law) : FnOk P w K mg base CX0 (2 * (k + 1)) a__law_lots v__law_lots ["many"] (spF ⟨K, cA [C_Flip]⟩ (evF d_gl d_tb (k + 1)) "_law_lots" [false]) :=
  Z.f__law_lots.ok sc__law_lots (fun vs H Q E h => sp_len rfl h) fun cdv A outer s H vs Q E hr h => ⟨_, ((ss_cons (sm_set (set_of (sd_lst (pa_items_cons rfl (fun _ z => nomatch z) (sd_tup pa_items_nil) pa_items_nil)) fun h => ps_set (i := 1) sc__law_lots.nd rfl (by first | exact .inl rfl | exact .inr rfl) h))
  (ss_cons (sm_for PassesOwn.never rfl (it_rng1 (by rfl) Z.z_range rfl (sd_var (pv 0))) (tg_at (pg_name (i := 2) sc__law_lots.nd rfl (by first | exact .inl rfl | exact .inr rfl))) (ss_cons (sm_set (set_of (sd_bin (o := .add) rfl (sd_var (pv 1)) (sd_comp rfl sc__law_lots.nd ⟨by decide, (it_seq rfl (sd_var (pv 1))), ⟨[("lot", 3)], rfl, blk_mk rfl⟩, fun _ _ _ _ _ => (tg_at (pg_name (i := 3) sc__law_lots.nd rfl (by first | exact .inl rfl | exact .inr rfl))), fun _ _ _ _ _ => pts_nil', fun _ _ _ _ _ => (Sd.kept (sd_bin (o := .add) rfl (sd_var (pv 3)) (sd_tup (pa_items_cons rfl (fun _ z => nomatch z) (sd_var (pv 2)) pa_items_nil)))), fun _ => rfl⟩)) fun h => ps_set (i := 1) sc__law_lots.nd rfl (by first | exact .inl rfl | exact .inr rfl) h))
  ss_nil) (fun _ => rfl))
  (ss_cons (sm_ret (fn1 (b := .sorted) rfl rfl rfl (u64 hr) (by rfl) Z.z_sorted rfl (sd_var (pv 1))))
  ss_nil))) : PSs _ (defBody s__law_lots) (tSs ⟨K, cA [C_Flip]⟩ d_gl (evF d_gl d_tb k) d__law_lots.body)), fin_of h rfl rfl rfl⟩
theorem ok__law_behind (Z : Fx K mg C_Flip a_is_whole a_as_tuples a_lowest a_added a_times a_is_less a_Flip___init__ a_need_things a_known_places a_lot_chance_by a_chance_of_best a_chances_behind a_behind_chances a_greatest_chance a_best_start a_is_flip a_first_flip a_best_lots_many a__law_sum_of a__law_greater a__law_pen a__law_draw a__law_pick a__law_is a__law_gcd a__law_pair a__law_add a__law_mul a__law_below a__law_lots a__law_behind a__law_start a__law_best_of a_law v_is_whole v_as_tuples v_lowest v_added v_times v_is_less v_Flip___init__ v_need_things v_known_places v_lot_chance_by v_chance_of_best v_chances_behind v_behind_chances v_greatest_chance v_best_start v_is_flip v_first_flip v_best_lots_many v__law_sum_of v__law_greater v__law_pen v__law_draw v__law_pick v__law_is v__law_gcd v__law_pair v__law_add v__law_mul v__law_below v__law_lots v__law_behind v__law_start v__law_best_of v_law) (R : AllF P w K mg base k C_Flip a_is_whole a_as_tuples a_lowest a_added a_times a_is_less a_Flip___init__ a_need_things a_known_places a_lot_chance_by a_chance_of_best a_chances_behind a_behind_chances a_greatest_chance a_best_start a_is_flip a_first_flip a_best_lots_many a__law_sum_of a__law_greater a__law_pen a__law_draw a__law_pick a__law_is a__law_gcd a__law_pair a__law_add a__law_mul a__law_below a__law_lots a__law_behind a__law_start a__law_best_of a_law v_is_whole v_as_tuples v_lowest v_added v_times v_is_less v_Flip___init__ v_need_things v_known_places v_lot_chance_by v_chance_of_best v_chances_behind v_behind_chances v_greatest_chance v_best_start v_is_flip v_first_flip v_best_lots_many v__law_sum_of v__law_greater v__law_pen v__law_draw v__law_pick v__law_is v__law_gcd v__law_pair v__law_add v__law_mul v__law_below v__law_lots v__law_behind v__law_start v__law_best_of v_law) : FnOk P w K mg base CX0 (2 * (k + 1)) a__law_behind v__law_behind ["number"] (spF ⟨K, cA [C_Flip]⟩ (evF d_gl d_tb (k + 1)) "_law_behind" [false]) :=
  Z.f__law_behind.ok sc__law_behind (fun vs H Q E h => sp_len rfl h) fun cdv A outer s H vs Q E hr h => ⟨_, ((ss_cons (sm_set (set_of (sd_lst (pa_items_cons rfl (fun _ z => nomatch z) (sd_tup (pa_items_cons rfl (fun _ z => nomatch z) sd_int (pa_items_cons rfl (fun _ z => nomatch z) sd_int pa_items_nil))) pa_items_nil)) fun h => ps_set (i := 1) sc__law_behind.nd rfl (by first | exact .inl rfl | exact .inr rfl) h))
  (ss_cons (sm_for PassesOwn.never rfl (it_rng3 (by rfl) Z.z_range rfl rfl rfl (sd_var (pv 0)) sd_int (sd_neg sd_int) rfl) (tg_at (pg_name (i := 2) sc__law_behind.nd rfl (by first | exact .inl rfl | exact .inr rfl))) (ss_cons (sm_par (par_swap2 (ps_par (i := 3) (j := 4) rfl sc__law_behind.nd rfl rfl (by decide) rfl rfl (pa_news_cons rfl (cl_any (CXX := CX0) (P := P) (w := w) R.o__law_pair (hr2 hr) (by rfl) Z.g__law_pair Z.f__law_pair.kp Z.b__law_pair (by decide +kernel) rfl rfl rfl (pa_args_val rfl rfl (sd_var (pv 2)) (pa_args_val rfl rfl (sd_var (pv 0)) pa_args_nil))) (pa_news_cons rfl (sd_ix rfl (u65 hr) rfl (sd_var (pv 1)) sd_int) pa_news_nil)) (by rfl) (by rfl))))
  (ss_cons (sm_set (set_of (sd_bin (o := .add) rfl (sd_lst (pa_items_cons rfl (fun _ z => nomatch z) (cl_any (CXX := CX0) (P := P) (w := w) R.o__law_add (hr2 hr) (by rfl) Z.g__law_add Z.f__law_add.kp Z.b__law_add (by decide +kernel) rfl rfl rfl (pa_args_val rfl rfl (cl_any (CXX := CX0) (P := P) (w := w) R.o__law_mul (hr2 hr) (by rfl) Z.g__law_mul Z.f__law_mul.kp Z.b__law_mul (by decide +kernel) rfl rfl rfl (pa_args_val rfl rfl (cl_any (CXX := CX0) (P := P) (w := w) R.o__law_pair (hr2 hr) (by rfl) Z.g__law_pair Z.f__law_pair.kp Z.b__law_pair (by decide +kernel) rfl rfl rfl (pa_args_val rfl rfl sd_int (pa_args_val rfl rfl (sd_var (pv 2)) pa_args_nil))) (pa_args_val rfl rfl (cl_any (CXX := CX0) (P := P) (w := w) R.o__law_greater (hr2 hr) (by rfl) Z.g__law_greater Z.f__law_greater.kp Z.b__law_greater (by decide +kernel) rfl rfl rfl (pa_args_val rfl rfl (sd_var (pv 3)) (pa_args_val rfl rfl (sd_var (pv 4)) pa_args_nil))) pa_args_nil))) (pa_args_val rfl rfl (cl_any (CXX := CX0) (P := P) (w := w) R.o__law_mul (hr2 hr) (by rfl) Z.g__law_mul Z.f__law_mul.kp Z.b__law_mul (by decide +kernel) rfl rfl rfl (pa_args_val rfl rfl (cl_any (CXX := CX0) (P := P) (w := w) R.o__law_pair (hr2 hr) (by rfl) Z.g__law_pair Z.f__law_pair.kp Z.b__law_pair (by decide +kernel) rfl rfl rfl (pa_args_val rfl rfl (sd_bin (o := .sub) rfl (sd_var (pv 2)) sd_int) (pa_args_val rfl rfl (sd_var (pv 2)) pa_args_nil))) (pa_args_val rfl rfl (sd_var (pv 4)) pa_args_nil))) pa_args_nil))) pa_items_nil)) (sd_var (pv 1))) fun h => ps_set (i := 1) sc__law_behind.nd rfl (by first | exact .inl rfl | exact .inr rfl) h))
  ss_nil)) (fun _ => rfl))
  (ss_cons (sm_ret (sd_var (pv 1)))
  ss_nil))) : PSs _ (defBody s__law_behind) (tSs ⟨K, cA [C_Flip]⟩ d_gl (evF d_gl d_tb k) d__law_behind.body)), fin_of h rfl rfl rfl⟩
theorem ok__law_start (Z : Fx K mg C_Flip a_is_whole a_as_tuples a_lowest a_added a_times a_is_less a_Flip___init__ a_need_things a_known_places a_lot_chance_by a_chance_of_best a_chances_behind a_behind_chances a_greatest_chance a_best_start a_is_flip a_first_flip a_best_lots_many a__law_sum_of a__law_greater a__law_pen a__law_draw a__law_pick a__law_is a__law_gcd a__law_pair a__law_add a__law_mul a__law_below a__law_lots a__law_behind a__law_start a__law_best_of a_law v_is_whole v_as_tuples v_lowest v_added v_times v_is_less v_Flip___init__ v_need_things v_known_places v_lot_chance_by v_chance_of_best v_chances_behind v_behind_chances v_greatest_chance v_best_start v_is_flip v_first_flip v_best_lots_many v__law_sum_of v__law_greater v__law_pen v__law_draw v__law_pick v__law_is v__law_gcd v__law_pair v__law_add v__law_mul v__law_below v__law_lots v__law_behind v__law_start v__law_best_of v_law) (R : AllF P w K mg base k C_Flip a_is_whole a_as_tuples a_lowest a_added a_times a_is_less a_Flip___init__ a_need_things a_known_places a_lot_chance_by a_chance_of_best a_chances_behind a_behind_chances a_greatest_chance a_best_start a_is_flip a_first_flip a_best_lots_many a__law_sum_of a__law_greater a__law_pen a__law_draw a__law_pick a__law_is a__law_gcd a__law_pair a__law_add a__law_mul a__law_below a__law_lots a__law_behind a__law_start a__law_best_of a_law v_is_whole v_as_tuples v_lowest v_added v_times v_is_less v_Flip___init__ v_need_things v_known_places v_lot_chance_by v_chance_of_best v_chances_behind v_behind_chances v_greatest_chance v_best_start v_is_flip v_first_flip v_best_lots_many v__law_sum_of v__law_greater v__law_pen v__law_draw v__law_pick v__law_is v__law_gcd v__law_pair v__law_add v__law_mul v__law_below v__law_lots v__law_behind v__law_start v__law_best_of v_law) : FnOk P w K mg base CX0 (2 * (k + 1)) a__law_start v__law_start ["number"] (spF ⟨K, cA [C_Flip]⟩ (evF d_gl d_tb (k + 1)) "_law_start" [false]) :=
  Z.f__law_start.ok sc__law_start (fun vs H Q E h => sp_len rfl h) fun cdv A outer s H vs Q E hr h => ⟨_, ((ss_cons (sm_for PassesOwn.never rfl (it_rng2 (by rfl) Z.z_range rfl rfl sd_int (sd_bin (o := .add) rfl (sd_var (pv 0)) sd_int)) (tg_at (pg_name (i := 1) sc__law_start.nd rfl (by first | exact .inl rfl | exact .inr rfl))) (ss_cons (sm_set (set_of (cl_any (CXX := CX0) (P := P) (w := w) R.o__law_sum_of (hr2 hr) (by rfl) Z.g__law_sum_of Z.f__law_sum_of.kp Z.b__law_sum_of (by decide +kernel) rfl rfl rfl (pa_args_val rfl rfl (sd_comp rfl sc__law_start.nd ⟨by decide, (it_rng2 (by rfl) Z.z_range rfl rfl (sd_var (pv 1)) (sd_var (pv 0))), ⟨[("place", 3)], rfl, blk_mk rfl⟩, fun _ _ _ _ _ => (tg_at (pg_name (i := 3) sc__law_start.nd rfl (by first | exact .inl rfl | exact .inr rfl))), fun _ _ _ _ _ => pts_nil', fun _ _ _ _ _ => (Sd.kept (cl_any (CXX := CX0) (P := P) (w := w) R.o__law_pair (hr2 hr) (by rfl) Z.g__law_pair Z.f__law_pair.kp Z.b__law_pair (by decide +kernel) rfl rfl rfl (pa_args_val rfl rfl sd_int (pa_args_val rfl rfl (sd_var (pv 3)) pa_args_nil)))), fun _ => rfl⟩) pa_args_nil)) fun h => ps_set (i := 2) sc__law_start.nd rfl (by first | exact .inl rfl | exact .inr rfl) h))
  (ss_cons (sm_if (st_not (st_plain rfl rfl (cl_any (CXX := CX0) (P := P) (w := w) R.o__law_below (hr2 hr) (by rfl) Z.g__law_below Z.f__law_below.kp Z.b__law_below (by decide +kernel) rfl rfl rfl (pa_args_val rfl rfl (sd_tup (pa_items_cons rfl (fun _ z => nomatch z) sd_int (pa_items_cons rfl (fun _ z => nomatch z) sd_int pa_items_nil))) (pa_args_val rfl rfl (sd_var (pv 2)) pa_args_nil))))) (ss_cons (sm_ret (sd_var (pv 1)))
  ss_nil) ss_nil)
  ss_nil)) (fun _ => rfl))
  (ss_cons (sm_ret (sd_var (pv 0)))
  ss_nil)) : PSs _ (defBody s__law_start) (tSs ⟨K, cA [C_Flip]⟩ d_gl (evF d_gl d_tb k) d__law_start.body)), fin_of h rfl rfl rfl⟩
theorem ok__law_best_of (Z : Fx K mg C_Flip a_is_whole a_as_tuples a_lowest a_added a_times a_is_less a_Flip___init__ a_need_things a_known_places a_lot_chance_by a_chance_of_best a_chances_behind a_behind_chances a_greatest_chance a_best_start a_is_flip a_first_flip a_best_lots_many a__law_sum_of a__law_greater a__law_pen a__law_draw a__law_pick a__law_is a__law_gcd a__law_pair a__law_add a__law_mul a__law_below a__law_lots a__law_behind a__law_start a__law_best_of a_law v_is_whole v_as_tuples v_lowest v_added v_times v_is_less v_Flip___init__ v_need_things v_known_places v_lot_chance_by v_chance_of_best v_chances_behind v_behind_chances v_greatest_chance v_best_start v_is_flip v_first_flip v_best_lots_many v__law_sum_of v__law_greater v__law_pen v__law_draw v__law_pick v__law_is v__law_gcd v__law_pair v__law_add v__law_mul v__law_below v__law_lots v__law_behind v__law_start v__law_best_of v_law) (R : AllF P w K mg base k C_Flip a_is_whole a_as_tuples a_lowest a_added a_times a_is_less a_Flip___init__ a_need_things a_known_places a_lot_chance_by a_chance_of_best a_chances_behind a_behind_chances a_greatest_chance a_best_start a_is_flip a_first_flip a_best_lots_many a__law_sum_of a__law_greater a__law_pen a__law_draw a__law_pick a__law_is a__law_gcd a__law_pair a__law_add a__law_mul a__law_below a__law_lots a__law_behind a__law_start a__law_best_of a_law v_is_whole v_as_tuples v_lowest v_added v_times v_is_less v_Flip___init__ v_need_things v_known_places v_lot_chance_by v_chance_of_best v_chances_behind v_behind_chances v_greatest_chance v_best_start v_is_flip v_first_flip v_best_lots_many v__law_sum_of v__law_greater v__law_pen v__law_draw v__law_pick v__law_is v__law_gcd v__law_pair v__law_add v__law_mul v__law_below v__law_lots v__law_behind v__law_start v__law_best_of v_law) : FnOk P w K mg base CX0 (2 * (k + 1)) a__law_best_of v__law_best_of ["number"] (spF ⟨K, cA [C_Flip]⟩ (evF d_gl d_tb (k + 1)) "_law_best_of" [false]) :=
  Z.f__law_best_of.ok sc__law_best_of (fun vs H Q E h => sp_len rfl h) fun cdv A outer s H vs Q E hr h => ⟨_, ((ss_cons (sm_par (par_plain (is := [2, 3]) rfl rfl (by decide) (pa_news_cons rfl (sd_tup (pa_items_cons rfl (fun _ z => nomatch z) sd_int (pa_items_cons rfl (fun _ z => nomatch z) sd_int pa_items_nil))) (pa_news_cons rfl sd_int pa_news_nil)) (pgs_cons (pg_name (i := 2) sc__law_best_of.nd rfl (by first | exact .inl rfl | exact .inr rfl)) (pgs_cons (pg_name (i := 3) sc__law_best_of.nd rfl (by first | exact .inl rfl | exact .inr rfl)) pgs_nil rfl) rfl) rfl rfl (by rfl) (by rfl) rfl))
  (ss_cons (sm_for PassesOwn.never rfl (it_seq rfl (cl_any (CXX := CX0) (P := P) (w := w) R.o__law_lots (hr2 hr) (by rfl) Z.g__law_lots Z.f__law_lots.kp Z.b__law_lots (by decide +kernel) rfl rfl rfl (pa_args_val rfl rfl (sd_var (pv 0)) pa_args_nil))) (tg_at (pg_name (i := 1) sc__law_best_of.nd rfl (by first | exact .inl rfl | exact .inr rfl))) (ss_cons (sm_set (set_of (sd_tup (pa_items_cons rfl (fun _ z => nomatch z) sd_int (pa_items_cons rfl (fun _ z => nomatch z) sd_int pa_items_nil))) fun h => ps_set (i := 4) sc__law_best_of.nd rfl (by first | exact .inl rfl | exact .inr rfl) h))
  (ss_cons (sm_for PassesOwn.never rfl (it_rng3 (by rfl) Z.z_range rfl rfl rfl (sd_var (pv 0)) sd_int (sd_neg sd_int) rfl) (tg_at (pg_name (i := 5) sc__law_best_of.nd rfl (by first | exact .inl rfl | exact .inr rfl))) (ss_cons (sm_if (st_mem rfl (u65 hr) rfl (sd_bin (o := .sub) rfl (sd_var (pv 5)) sd_int) (sd_var (pv 1))) (ss_cons (sm_set (set_of (cl_any (CXX := CX0) (P := P) (w := w) R.o__law_add (hr2 hr) (by rfl) Z.g__law_add Z.f__law_add.kp Z.b__law_add (by decide +kernel) rfl rfl rfl (pa_args_val rfl rfl (cl_any (CXX := CX0) (P := P) (w := w) R.o__law_pair (hr2 hr) (by rfl) Z.g__law_pair Z.f__law_pair.kp Z.b__law_pair (by decide +kernel) rfl rfl rfl (pa_args_val rfl rfl sd_int (pa_args_val rfl rfl (sd_var (pv 0)) pa_args_nil))) (pa_args_val rfl rfl (cl_any (CXX := CX0) (P := P) (w := w) R.o__law_mul (hr2 hr) (by rfl) Z.g__law_mul Z.f__law_mul.kp Z.b__law_mul (by decide +kernel) rfl rfl rfl (pa_args_val rfl rfl (cl_any (CXX := CX0) (P := P) (w := w) R.o__law_pair (hr2 hr) (by rfl) Z.g__law_pair Z.f__law_pair.kp Z.b__law_pair (by decide +kernel) rfl rfl rfl (pa_args_val rfl rfl (sd_bin (o := .sub) rfl (sd_var (pv 5)) sd_int) (pa_args_val rfl rfl (sd_var (pv 5)) pa_args_nil))) (pa_args_val rfl rfl (sd_var (pv 4)) pa_args_nil))) pa_args_nil))) fun h => ps_set (i := 4) sc__law_best_of.nd rfl (by first | exact .inl rfl | exact .inr rfl) h))
  ss_nil) ss_nil)
  ss_nil) (fun _ => rfl))
  (ss_cons (sm_if (st_plain rfl rfl (cl_any (CXX := CX0) (P := P) (w := w) R.o__law_below (hr2 hr) (by rfl) Z.g__law_below Z.f__law_below.kp Z.b__law_below (by decide +kernel) rfl rfl rfl (pa_args_val rfl rfl (sd_var (pv 2)) (pa_args_val rfl rfl (sd_var (pv 4)) pa_args_nil)))) (ss_cons (sm_par (par_swap2 (ps_par (i := 2) (j := 3) rfl sc__law_best_of.nd rfl rfl (by decide) rfl rfl (pa_news_cons rfl (sd_var (pv 4)) (pa_news_cons rfl sd_int pa_news_nil)) (by rfl) (by rfl))))
  ss_nil) (ss_cons (sm_if (st_cmp (o := .eq) rfl (u65 hr) (sd_var (pv 2)) (sd_var (pv 4))) (ss_cons (sm_set (set_of (sd_bin (o := .add) rfl (sd_var (pv 3)) sd_int) fun h => ps_set (i := 3) sc__law_best_of.nd rfl (by first | exact .inl rfl | exact .inr rfl) h))
  ss_nil) ss_nil)
  ss_nil))
  ss_nil))) (fun _ => rfl))
  (ss_cons (sm_ret (sd_tup (pa_items_cons rfl (fun _ z => nomatch z) (sd_var (pv 2)) (pa_items_cons rfl (fun _ z => nomatch z) (sd_var (pv 3)) pa_items_nil))))
  ss_nil))) : PSs _ (defBody s__law_best_of) (tSs ⟨K, cA [C_Flip]⟩ d_gl (evF d_gl d_tb k) d__law_best_of.body)), fin_of h rfl rfl rfl⟩
theorem ok_law (Z : Fx K mg C_Flip a_is_whole a_as_tuples a_lowest a_added a_times a_is_less a_Flip___init__ a_need_things a_known_places a_lot_chance_by a_chance_of_best a_chances_behind a_behind_chances a_greatest_chance a_best_start a_is_flip a_first_flip a_best_lots_many a__law_sum_of a__law_greater a__law_pen a__law_draw a__law_pick a__law_is a__law_gcd a__law_pair a__law_add a__law_mul a__law_below a__law_lots a__law_behind a__law_start a__law_best_of a_law v_is_whole v_as_tuples v_lowest v_added v_times v_is_less v_Flip___init__ v_need_things v_known_places v_lot_chance_by v_chance_of_best v_chances_behind v_behind_chances v_greatest_chance v_best_start v_is_flip v_first_flip v_best_lots_many v__law_sum_of v__law_greater v__law_pen v__law_draw v__law_pick v__law_is v__law_gcd v__law_pair v__law_add v__law_mul v__law_below v__law_lots v__law_behind v__law_start v__law_best_of v_law) (R : AllF P w K mg base k C_Flip a_is_whole a_as_tuples a_lowest a_added a_times a_is_less a_Flip___init__ a_need_things a_known_places a_lot_chance_by a_chance_of_best a_chances_behind a_behind_chances a_greatest_chance a_best_start a_is_flip a_first_flip a_best_lots_many a__law_sum_of a__law_greater a__law_pen a__law_draw a__law_pick a__law_is a__law_gcd a__law_pair a__law_add a__law_mul a__law_below a__law_lots a__law_behind a__law_start a__law_best_of a_law v_is_whole v_as_tuples v_lowest v_added v_times v_is_less v_Flip___init__ v_need_things v_known_places v_lot_chance_by v_chance_of_best v_chances_behind v_behind_chances v_greatest_chance v_best_start v_is_flip v_first_flip v_best_lots_many v__law_sum_of v__law_greater v__law_pen v__law_draw v__law_pick v__law_is v__law_gcd v__law_pair v__law_add v__law_mul v__law_below v__law_lots v__law_behind v__law_start v__law_best_of v_law) : FnOk P w K mg base CX0 (2 * (k + 1)) a_law v_law ["script"] (spF ⟨K, cA [C_Flip]⟩ (evF d_gl d_tb (k + 1)) "law" [false]) :=
  Z.f_law.ok sc_law (fun vs H Q E h => sp_len rfl h) fun cdv A outer s H vs Q E hr h => ⟨_, ((ss_cons (sm_set (set_of (cl_any (CXX := CX0) (P := P) (w := w) R.o__law_pen (hr2 hr) (by rfl) Z.g__law_pen Z.f__law_pen.kp Z.b__law_pen (by decide +kernel) rfl rfl rfl (pa_args_val rfl rfl (sd_var (pv 0)) pa_args_nil)) fun h => ps_set (i := 1) sc_law.nd rfl (by first | exact .inl rfl | exact .inr rfl) h))
  (ss_cons (sm_for PassesOwn.never rfl (it_rng1 (by rfl) Z.z_range rfl sd_int) (tg_at (pg_name (i := 2) sc_law.nd rfl (by first | exact .inl rfl | exact .inr rfl))) (ss_cons (sm_set (set_of (sd_bin (o := .add) rfl sd_int (cl_any (CXX := CX0) (P := P) (w := w) R.o__law_draw (hr2 hr) (by rfl) Z.g__law_draw Z.f__law_draw.kp Z.b__law_draw (by decide +kernel) rfl rfl rfl (pa_args_bor rfl rfl (pv 1) (pa_args_val rfl rfl (cl_any (CXX := CX0) (P := P) (w := w) R.o__law_pick (hr2 hr) (by rfl) Z.g__law_pick Z.f__law_pick.kp Z.b__law_pick (by decide +kernel) rfl rfl rfl (pa_args_bor rfl rfl (pv 1) (pa_args_val rfl rfl (sd_lst (pa_items_cons rfl (fun _ z => nomatch z) sd_int (pa_items_cons rfl (fun _ z => nomatch z) sd_int (pa_items_cons rfl (fun _ z => nomatch z) sd_int pa_items_nil)))) pa_args_nil))) pa_args_nil)))) fun h => ps_set (i := 3) sc_law.nd rfl (by first | exact .inl rfl | exact .inr rfl) h))
  (ss_cons (sm_par (par_plain (is := [7, 8]) rfl rfl (by decide) (pa_news_cons rfl (cl_any (CXX := CX0) (P := P) (w := w) R.o__law_behind (hr2 hr) (by rfl) Z.g__law_behind Z.f__law_behind.kp Z.b__law_behind (by decide +kernel) rfl rfl rfl (pa_args_val rfl rfl (sd_var (pv 3)) pa_args_nil)) (pa_news_cons rfl (cl_any (CXX := CX0) (P := P) (w := w) R.o__law_start (hr2 hr) (by rfl) Z.g__law_start Z.f__law_start.kp Z.b__law_start (by decide +kernel) rfl rfl rfl (pa_args_val rfl rfl (sd_var (pv 3)) pa_args_nil)) pa_news_nil)) (pgs_cons (pg_name (i := 7) sc_law.nd rfl (by first | exact .inl rfl | exact .inr rfl)) (pgs_cons (pg_name (i := 8) sc_law.nd rfl (by first | exact .inl rfl | exact .inr rfl)) pgs_nil rfl) rfl) rfl rfl (by rfl) (by rfl) rfl))
  (ss_cons (sm_if (st_not (st_plain rfl rfl (cl_any (CXX := CX0) (P := P) (w := w) R.o__law_is (hr2 hr) (by rfl) Z.g__law_is Z.f__law_is.kp Z.b__law_is (by decide +kernel) rfl rfl rfl (pa_args_val rfl rfl (sd_tup (pa_items_cons rfl (fun _ z => nomatch z) (cl_any (CXX := CX0) (P := P) (w := w) R.o_behind_chances (hr2 hr) (by rfl) Z.g_behind_chances Z.f_behind_chances.kp Z.b_behind_chances (by decide +kernel) rfl rfl rfl (pa_args_val rfl rfl (sd_var (pv 3)) pa_args_nil)) (pa_items_cons rfl (fun _ z => nomatch z) (cl_any (CXX := CX0) (P := P) (w := w) R.o_best_start (hr2 hr) (by rfl) Z.g_best_start Z.f_best_start.kp Z.b_best_start (by decide +kernel) rfl rfl rfl (pa_args_val rfl rfl (sd_var (pv 3)) pa_args_nil)) pa_items_nil))) (pa_args_val rfl rfl (sd_tup (pa_items_cons rfl (fun _ z => nomatch z) (fn1 (b := .tuple) rfl rfl rfl (u64 hr) (by rfl) Z.z_tuple rfl (sd_var (pv 7))) (pa_items_cons rfl (fun _ z => nomatch z) (sd_var (pv 8)) pa_items_nil))) pa_args_nil))))) (ss_cons (sm_ret sd_bl)
  ss_nil) ss_nil)
  (ss_cons (sm_set (set_of (sd_conv2 (f := .tuple) (.inr rfl) rfl (by rfl) Z.z_range (by rfl) Z.z_tuple rfl rfl (sd_var (pv 8)) (sd_bin (o := .add) rfl (sd_var (pv 3)) sd_int) rfl) fun h => ps_set (i := 4) sc_law.nd rfl (by first | exact .inl rfl | exact .inr rfl) h))
  (ss_cons (sm_if (st_tor (pw_torC (st_cmp (o := .ne) rfl (u65 hr) (cl_any (CXX := CX0) (P := P) (w := w) R.o_greatest_chance (hr2 hr) (by rfl) Z.g_greatest_chance Z.f_greatest_chance.kp Z.b_greatest_chance (by decide +kernel) rfl rfl rfl (pa_args_val rfl rfl (sd_var (pv 3)) pa_args_nil)) (cl_any (CXX := CX0) (P := P) (w := w) R.o_chance_of_best (hr2 hr) (by rfl) Z.g_chance_of_best Z.f_chance_of_best.kp Z.b_chance_of_best (by decide +kernel) rfl rfl rfl (pa_args_val rfl rfl (sd_var (pv 3)) (pa_args_val rfl rfl (sd_var (pv 4)) pa_args_nil)))) (pw_tor1 (st_isnN (cl_any (CXX := CX0) (P := P) (w := w) R.o_first_flip (hr2 hr) (by rfl) Z.g_first_flip Z.f_first_flip.kp Z.b_first_flip (by decide +kernel) rfl rfl rfl (pa_args_val rfl rfl (sd_var (pv 3)) (pa_args_val rfl rfl (sd_var (pv 4)) pa_args_nil))))))) (ss_cons (sm_ret sd_bl)
  ss_nil) ss_nil)
  (ss_cons (sm_if (st_tor (pw_torC (st_tand (pw_tandC (st_cmp (o := .gt) rfl (u65 hr) (sd_var (pv 3)) sd_int) (pw_tand1 (st_cmp (o := .ne) rfl (u65 hr) (cl_any (CXX := CX0) (P := P) (w := w) R.o_greatest_chance (hr2 hr) (by rfl) Z.g_greatest_chance Z.f_greatest_chance.kp Z.b_greatest_chance (by decide +kernel) rfl rfl rfl (pa_args_val rfl rfl (sd_var (pv 3)) pa_args_nil)) (sd_ix rfl (u65 hr) rfl (sd_var (pv 7)) sd_int))))) (pw_tor1 (st_tand (pw_tandC (st_cmp (o := .lt) rfl (u65 hr) (sd_var (pv 3)) sd_int) (pw_tand1 (st_plain rfl rfl (cl_any (CXX := CX0) (P := P) (w := w) R.o__law_below (hr2 hr) (by rfl) Z.g__law_below Z.f__law_below.kp Z.b__law_below (by decide +kernel) rfl rfl rfl (pa_args_val rfl rfl (cl_any (CXX := CX0) (P := P) (w := w) R.o_greatest_chance (hr2 hr) (by rfl) Z.g_greatest_chance Z.f_greatest_chance.kp Z.b_greatest_chance (by decide +kernel) rfl rfl rfl (pa_args_val rfl rfl (sd_var (pv 3)) pa_args_nil)) (pa_args_val rfl rfl (cl_any (CXX := CX0) (P := P) (w := w) R.o_greatest_chance (hr2 hr) (by rfl) Z.g_greatest_chance Z.f_greatest_chance.kp Z.b_greatest_chance (by decide +kernel) rfl rfl rfl (pa_args_val rfl rfl (sd_bin (o := .add) rfl (sd_var (pv 3)) sd_int) pa_args_nil)) pa_args_nil)))))))))) (ss_cons (sm_ret sd_bl)
  ss_nil) ss_nil)
  (ss_cons (sm_if (st_tor (pw_torC (st_cmp (o := .ne) rfl (u65 hr) (sd_comp rfl sc_law.nd ⟨by decide, (it_rng1 (by rfl) Z.z_range rfl (sd_bin (o := .sub) rfl (sd_var (pv 3)) sd_int)), ⟨[("at", 10)], rfl, blk_mk rfl⟩, fun _ _ _ _ _ => (tg_at (pg_name (i := 10) sc_law.nd rfl (by first | exact .inl rfl | exact .inr rfl))), fun _ _ _ _ _ => (pts_one' (st_plain rfl rfl (cl_any (CXX := CX0) (P := P) (w := w) R.o__law_below (hr2 hr) (by rfl) Z.g__law_below Z.f__law_below.kp Z.b__law_below (by decide +kernel) rfl rfl rfl (pa_args_val rfl rfl (sd_ix rfl (u65 hr) rfl (sd_var (pv 7)) (sd_var (pv 10))) (pa_args_val rfl rfl (sd_ix rfl (u65 hr) rfl (sd_var (pv 7)) (sd_bin (o := .add) rfl (sd_var (pv 10)) sd_int)) pa_args_nil))))), fun _ _ _ _ _ => (Sd.kept (sd_var (pv 10))), fun _ => rfl⟩) (sd_lst pa_items_nil)) (pw_tor1 (st_tand (pw_tandC (st_cmp (o := .gt) rfl (u65 hr) (sd_var (pv 3)) sd_int) (pw_tand1 (st_plain rfl rfl (cl_any (CXX := CX0) (P := P) (w := w) R.o__law_below (hr2 hr) (by rfl) Z.g__law_below Z.f__law_below.kp Z.b__law_below (by decide +kernel) rfl rfl rfl (pa_args_val rfl rfl (cl_any (CXX := CX0) (P := P) (w := w) R.o_greatest_chance (hr2 hr) (by rfl) Z.g_greatest_chance Z.f_greatest_chance.kp Z.b_greatest_chance (by decide +kernel) rfl rfl rfl (pa_args_val rfl rfl (sd_var (pv 3)) pa_args_nil)) (pa_args_val rfl rfl (sd_tup (pa_items_cons rfl (fun _ z => nomatch z) sd_int (pa_items_cons rfl (fun _ z => nomatch z) sd_int pa_items_nil))) pa_args_nil)))))))))) (ss_cons (sm_ret sd_bl)
  ss_nil) ss_nil)
  (ss_cons (sm_for PassesOwn.never rfl (it_seq rfl (sd_tup (pa_items_cons rfl (fun _ z => nomatch z) (sd_bin (o := .sub) rfl (sd_var (pv 8)) sd_int) (pa_items_cons rfl (fun _ z => nomatch z) (sd_bin (o := .add) rfl (sd_var (pv 8)) sd_int) (pa_items_cons rfl (fun _ z => nomatch z) sd_int (pa_items_cons rfl (fun _ z => nomatch z) (sd_var (pv 3)) pa_items_nil)))))) (tg_at (pg_name (i := 5) sc_law.nd rfl (by first | exact .inl rfl | exact .inr rfl))) (ss_cons (sm_if (st_chain (o := .le) (o' := .le) rfl (u65 hr) sd_int (sd_var (pv 5)) (sd_var (pv 3))) (ss_cons (sm_set (set_of (cl_any (CXX := CX0) (P := P) (w := w) R.o_chance_of_best (hr2 hr) (by rfl) Z.g_chance_of_best Z.f_chance_of_best.kp Z.b_chance_of_best (by decide +kernel) rfl rfl rfl (pa_args_val rfl rfl (sd_var (pv 3)) (pa_args_val rfl rfl (sd_conv2 (f := .tuple) (.inr rfl) rfl (by rfl) Z.z_range (by rfl) Z.z_tuple rfl rfl (sd_var (pv 5)) (sd_bin (o := .add) rfl (sd_var (pv 3)) sd_int) rfl) pa_args_nil))) fun h => ps_set (i := 9) sc_law.nd rfl (by first | exact .inl rfl | exact .inr rfl) h))
  (ss_cons (sm_if (st_plain rfl rfl (cl_any (CXX := CX0) (P := P) (w := w) R.o__law_below (hr2 hr) (by rfl) Z.g__law_below Z.f__law_below.kp Z.b__law_below (by decide +kernel) rfl rfl rfl (pa_args_val rfl rfl (cl_any (CXX := CX0) (P := P) (w := w) R.o_greatest_chance (hr2 hr) (by rfl) Z.g_greatest_chance Z.f_greatest_chance.kp Z.b_greatest_chance (by decide +kernel) rfl rfl rfl (pa_args_val rfl rfl (sd_var (pv 3)) pa_args_nil)) (pa_args_val rfl rfl (sd_var (pv 9)) pa_args_nil)))) (ss_cons (sm_ret sd_bl)
  ss_nil) ss_nil)
  ss_nil)) ss_nil)
  ss_nil) (fun _ => rfl))
  (ss_cons (sm_set (set_of (sd_bin (o := .add) rfl sd_int (cl_any (CXX := CX0) (P := P) (w := w) R.o__law_draw (hr2 hr) (by rfl) Z.g__law_draw Z.f__law_draw.kp Z.b__law_draw (by decide +kernel) rfl rfl rfl (pa_args_bor rfl rfl (pv 1) (pa_args_val rfl rfl sd_int pa_args_nil)))) fun h => ps_set (i := 6) sc_law.nd rfl (by first | exact .inl rfl | exact .inr rfl) h))
  (ss_cons (sm_if (st_not (st_plain rfl rfl (cl_any (CXX := CX0) (P := P) (w := w) R.o__law_is (hr2 hr) (by rfl) Z.g__law_is Z.f__law_is.kp Z.b__law_is (by decide +kernel) rfl rfl rfl (pa_args_val rfl rfl (sd_tup (pa_items_cons rfl (fun _ z => nomatch z) (cl_any (CXX := CX0) (P := P) (w := w) R.o_greatest_chance (hr2 hr) (by rfl) Z.g_greatest_chance Z.f_greatest_chance.kp Z.b_greatest_chance (by decide +kernel) rfl rfl rfl (pa_args_val rfl rfl (sd_var (pv 6)) pa_args_nil)) (pa_items_cons rfl (fun _ z => nomatch z) (cl_any (CXX := CX0) (P := P) (w := w) R.o_best_lots_many (hr2 hr) (by rfl) Z.g_best_lots_many Z.f_best_lots_many.kp Z.b_best_lots_many (by decide +kernel) rfl rfl rfl (pa_args_val rfl rfl (sd_var (pv 6)) pa_args_nil)) pa_items_nil))) (pa_args_val rfl rfl (cl_any (CXX := CX0) (P := P) (w := w) R.o__law_best_of (hr2 hr) (by rfl) Z.g__law_best_of Z.f__law_best_of.kp Z.b__law_best_of (by decide +kernel) rfl rfl rfl (pa_args_val rfl rfl (sd_var (pv 6)) pa_args_nil)) pa_args_nil))))) (ss_cons (sm_ret sd_bl)
  ss_nil) ss_nil)
  ss_nil)))))))))) (fun _ => rfl))
  (ss_cons (sm_if (st_not (st_plain rfl rfl (cl_any (CXX := CX0) (P := P) (w := w) R.o__law_is (hr2 hr) (by rfl) Z.g__law_is Z.f__law_is.kp Z.b__law_is (by decide +kernel) rfl rfl rfl (pa_args_val rfl rfl (fn1 (b := .tuple) rfl rfl rfl (u64 hr) (by rfl) Z.z_tuple rfl (sd_comp rfl sc_law.nd ⟨by decide, (it_rng2 (by rfl) Z.z_range rfl rfl sd_int sd_int), ⟨[("number", 3)], rfl, blk_mk rfl⟩, fun _ _ _ _ _ => (tg_at (pg_name (i := 3) sc_law.nd rfl (by first | exact .inl rfl | exact .inr rfl))), fun _ _ _ _ _ => pts_nil', fun _ _ _ _ _ => (Sd.kept (cl_any (CXX := CX0) (P := P) (w := w) R.o_greatest_chance (hr2 hr) (by rfl) Z.g_greatest_chance Z.f_greatest_chance.kp Z.b_greatest_chance (by decide +kernel) rfl rfl rfl (pa_args_val rfl rfl (sd_var (pv 3)) pa_args_nil))), fun _ => rfl⟩)) (pa_args_val rfl rfl (sd_tup (pa_items_cons rfl (fun _ z => nomatch z) (sd_tup (pa_items_cons rfl (fun _ z => nomatch z) sd_int (pa_items_cons rfl (fun _ z => nomatch z) sd_int pa_items_nil))) (pa_items_cons rfl (fun _ z => nomatch z) (sd_tup (pa_items_cons rfl (fun _ z => nomatch z) sd_int (pa_items_cons rfl (fun _ z => nomatch z) sd_int pa_items_nil))) (pa_items_cons rfl (fun _ z => nomatch z) (sd_tup (pa_items_cons rfl (fun _ z => nomatch z) sd_int (pa_items_cons rfl (fun _ z => nomatch z) sd_int pa_items_nil))) (pa_items_cons rfl (fun _ z => nomatch z) (sd_tup (pa_items_cons rfl (fun _ z => nomatch z) sd_int (pa_items_cons rfl (fun _ z => nomatch z) sd_int pa_items_nil))) (pa_items_cons rfl (fun _ z => nomatch z) (sd_tup (pa_items_cons rfl (fun _ z => nomatch z) sd_int (pa_items_cons rfl (fun _ z => nomatch z) sd_int pa_items_nil))) pa_items_nil)))))) pa_args_nil))))) (ss_cons (sm_ret sd_bl)
  ss_nil) ss_nil)
  (ss_cons (sm_ret (cl_any (CXX := CX0) (P := P) (w := w) R.o__law_is (hr2 hr) (by rfl) Z.g__law_is Z.f__law_is.kp Z.b__law_is (by decide +kernel) rfl rfl rfl (pa_args_val rfl rfl (fn1 (b := .tuple) rfl rfl rfl (u64 hr) (by rfl) Z.z_tuple rfl (sd_comp rfl sc_law.nd ⟨by decide, (it_seq rfl (sd_tup (pa_items_cons rfl (fun _ z => nomatch z) sd_int (pa_items_cons rfl (fun _ z => nomatch z) sd_int (pa_items_cons rfl (fun _ z => nomatch z) sd_int (pa_items_cons rfl (fun _ z => nomatch z) sd_int (pa_items_cons rfl (fun _ z => nomatch z) sd_int (pa_items_cons rfl (fun _ z => nomatch z) sd_int (pa_items_cons rfl (fun _ z => nomatch z) sd_int (pa_items_cons rfl (fun _ z => nomatch z) sd_int (pa_items_cons rfl (fun _ z => nomatch z) sd_int pa_items_nil))))))))))), ⟨[("number", 3)], rfl, blk_mk rfl⟩, fun _ _ _ _ _ => (tg_at (pg_name (i := 3) sc_law.nd rfl (by first | exact .inl rfl | exact .inr rfl))), fun _ _ _ _ _ => pts_nil', fun _ _ _ _ _ => (Sd.kept (cl_any (CXX := CX0) (P := P) (w := w) R.o_best_start (hr2 hr) (by rfl) Z.g_best_start Z.f_best_start.kp Z.b_best_start (by decide +kernel) rfl rfl rfl (pa_args_val rfl rfl (sd_var (pv 3)) pa_args_nil))), fun _ => rfl⟩)) (pa_args_val rfl rfl (sd_tup (pa_items_cons rfl (fun _ z => nomatch z) sd_int (pa_items_cons rfl (fun _ z => nomatch z) sd_int (pa_items_cons rfl (fun _ z => nomatch z) sd_int (pa_items_cons rfl (fun _ z => nomatch z) sd_int (pa_items_cons rfl (fun _ z => nomatch z) sd_int (pa_items_cons rfl (fun _ z => nomatch z) sd_int (pa_items_cons rfl (fun _ z => nomatch z) sd_int (pa_items_cons rfl (fun _ z => nomatch z) sd_int (pa_items_cons rfl (fun _ z => nomatch z) sd_int pa_items_nil)))))))))) pa_args_nil))))
  ss_nil)))) : PSs _ (defBody s_law) (tSs ⟨K, cA [C_Flip]⟩ d_gl (evF d_gl d_tb k) d_law.body)), fin_of h rfl rfl rfl⟩
theorem all_ok (Z : Fx K mg C_Flip a_is_whole a_as_tuples a_lowest a_added a_times a_is_less a_Flip___init__ a_need_things a_known_places a_lot_chance_by a_chance_of_best a_chances_behind a_behind_chances a_greatest_chance a_best_start a_is_flip a_first_flip a_best_lots_many a__law_sum_of a__law_greater a__law_pen a__law_draw a__law_pick a__law_is a__law_gcd a__law_pair a__law_add a__law_mul a__law_below a__law_lots a__law_behind a__law_start a__law_best_of a_law v_is_whole v_as_tuples v_lowest v_added v_times v_is_less v_Flip___init__ v_need_things v_known_places v_lot_chance_by v_chance_of_best v_chances_behind v_behind_chances v_greatest_chance v_best_start v_is_flip v_first_flip v_best_lots_many v__law_sum_of v__law_greater v__law_pen v__law_draw v__law_pick v__law_is v__law_gcd v__law_pair v__law_add v__law_mul v__law_below v__law_lots v__law_behind v__law_start v__law_best_of v_law) : ∀ k, AllF P w K mg base k C_Flip a_is_whole a_as_tuples a_lowest a_added a_times a_is_less a_Flip___init__ a_need_things a_known_places a_lot_chance_by a_chance_of_best a_chances_behind a_behind_chances a_greatest_chance a_best_start a_is_flip a_first_flip a_best_lots_many a__law_sum_of a__law_greater a__law_pen a__law_draw a__law_pick a__law_is a__law_gcd a__law_pair a__law_add a__law_mul a__law_below a__law_lots a__law_behind a__law_start a__law_best_of a_law v_is_whole v_as_tuples v_lowest v_added v_times v_is_less v_Flip___init__ v_need_things v_known_places v_lot_chance_by v_chance_of_best v_chances_behind v_behind_chances v_greatest_chance v_best_start v_is_flip v_first_flip v_best_lots_many v__law_sum_of v__law_greater v__law_pen v__law_draw v__law_pick v__law_is v__law_gcd v__law_pair v__law_add v__law_mul v__law_below v__law_lots v__law_behind v__law_start v__law_best_of v_law
  | 0 => ⟨ok_zero rfl, ok_zero rfl, ok_zero rfl, ok_zero rfl, ok_zero rfl, ok_zero rfl, ok_zero rfl, ok_zero rfl, ok_zero rfl, ok_zero rfl, ok_zero rfl, ok_zero rfl, ok_zero rfl, ok_zero rfl, ok_zero rfl, ok_zero rfl, ok_zero rfl, ok_zero rfl, ok_zero rfl, ok_zero rfl, ok_zero rfl, ok_zero rfl, ok_zero rfl, ok_zero rfl, ok_zero rfl, ok_zero rfl, ok_zero rfl, ok_zero rfl, ok_zero rfl, ok_zero rfl, ok_zero rfl, ok_zero rfl, ok_zero rfl, ok_zero rfl⟩
  | k + 1 => let R := all_ok Z k; ⟨ok_is_whole Z R, ok_as_tuples Z R, ok_lowest Z R, ok_added Z R, ok_times Z R, ok_is_less Z R, ok_Flip___init__ Z R, ok_need_things Z R, ok_known_places Z R, ok_lot_chance_by Z R, ok_chance_of_best Z R, ok_chances_behind Z R, ok_behind_chances Z R, ok_greatest_chance Z R, ok_best_start Z R, ok_is_flip Z R, ok_first_flip Z R, ok_best_lots_many Z R, ok__law_sum_of Z R, ok__law_greater Z R, ok__law_pen Z R, ok__law_draw Z R, ok__law_pick Z R, ok__law_is Z R, ok__law_gcd Z R, ok__law_pair Z R, ok__law_add Z R, ok__law_mul Z R, ok__law_below Z R, ok__law_lots Z R, ok__law_behind Z R, ok__law_start Z R, ok__law_best_of Z R, ok_law Z R⟩
end
/-! ### what the top has written; the law's own head -/
theorem all_mk {l : PySem.W.OpenLaw} {w : World} {K : PySem.W.Frag} {h : Heap} {mg : Str → Option Value} {fa C_Flip a_is_whole a_as_tuples a_lowest a_added a_times a_is_less a_Flip___init__ a_need_things a_known_places a_lot_chance_by a_chance_of_best a_chances_behind a_behind_chances a_greatest_chance a_best_start a_is_flip a_first_flip a_best_lots_many a__law_sum_of a__law_greater a__law_pen a__law_draw a__law_pick a__law_is a__law_gcd a__law_pair a__law_add a__law_mul a__law_below a__law_lots a__law_behind a__law_start a__law_best_of a_law : Addr}
    {od0 an0 : Option Addr} {sl0 : Array (Option Value)} {oc0 kV0 dc0 pm0 cd0 ct0 : Value}
    {od1 an1 : Option Addr} {sl1 : Array (Option Value)} {oc1 kV1 dc1 pm1 cd1 ct1 : Value}
    {od2 an2 : Option Addr} {sl2 : Array (Option Value)} {oc2 kV2 dc2 pm2 cd2 ct2 : Value}
    {od3 an3 : Option Addr} {sl3 : Array (Option Value)} {oc3 kV3 dc3 pm3 cd3 ct3 : Value}
    {od4 an4 : Option Addr} {sl4 : Array (Option Value)} {oc4 kV4 dc4 pm4 cd4 ct4 : Value}
    {od5 an5 : Option Addr} {sl5 : Array (Option Value)} {oc5 kV5 dc5 pm5 cd5 ct5 : Value}
    {od6 an6 : Option Addr} {sl6 : Array (Option Value)} {oc6 kV6 dc6 pm6 cd6 ct6 : Value}
    {od7 an7 : Option Addr} {sl7 : Array (Option Value)} {oc7 kV7 dc7 pm7 cd7 ct7 : Value}
    {od8 an8 : Option Addr} {sl8 : Array (Option Value)} {oc8 kV8 dc8 pm8 cd8 ct8 : Value}
    {od9 an9 : Option Addr} {sl9 : Array (Option Value)} {oc9 kV9 dc9 pm9 cd9 ct9 : Value}
    {od10 an10 : Option Addr} {sl10 : Array (Option Value)} {oc10 kV10 dc10 pm10 cd10 ct10 : Value}
    {od11 an11 : Option Addr} {sl11 : Array (Option Value)} {oc11 kV11 dc11 pm11 cd11 ct11 : Value}
    {od12 an12 : Option Addr} {sl12 : Array (Option Value)} {oc12 kV12 dc12 pm12 cd12 ct12 : Value}
    {od13 an13 : Option Addr} {sl13 : Array (Option Value)} {oc13 kV13 dc13 pm13 cd13 ct13 : Value}
    {od14 an14 : Option Addr} {sl14 : Array (Option Value)} {oc14 kV14 dc14 pm14 cd14 ct14 : Value}
    {od15 an15 : Option Addr} {sl15 : Array (Option Value)} {oc15 kV15 dc15 pm15 cd15 ct15 : Value}
    {od16 an16 : Option Addr} {sl16 : Array (Option Value)} {oc16 kV16 dc16 pm16 cd16 ct16 : Value}
    {od17 an17 : Option Addr} {sl17 : Array (Option Value)} {oc17 kV17 dc17 pm17 cd17 ct17 : Value}
    {od18 an18 : Option Addr} {sl18 : Array (Option Value)} {oc18 kV18 dc18 pm18 cd18 ct18 : Value}
    {od19 an19 : Option Addr} {sl19 : Array (Option Value)} {oc19 kV19 dc19 pm19 cd19 ct19 : Value}
    {od20 an20 : Option Addr} {sl20 : Array (Option Value)} {oc20 kV20 dc20 pm20 cd20 ct20 : Value}
    {od21 an21 : Option Addr} {sl21 : Array (Option Value)} {oc21 kV21 dc21 pm21 cd21 ct21 : Value}
    {od22 an22 : Option Addr} {sl22 : Array (Option Value)} {oc22 kV22 dc22 pm22 cd22 ct22 : Value}
    {od23 an23 : Option Addr} {sl23 : Array (Option Value)} {oc23 kV23 dc23 pm23 cd23 ct23 : Value}
    {od24 an24 : Option Addr} {sl24 : Array (Option Value)} {oc24 kV24 dc24 pm24 cd24 ct24 : Value}
    {od25 an25 : Option Addr} {sl25 : Array (Option Value)} {oc25 kV25 dc25 pm25 cd25 ct25 : Value}
    {od26 an26 : Option Addr} {sl26 : Array (Option Value)} {oc26 kV26 dc26 pm26 cd26 ct26 : Value}
    {od27 an27 : Option Addr} {sl27 : Array (Option Value)} {oc27 kV27 dc27 pm27 cd27 ct27 : Value}
    {od28 an28 : Option Addr} {sl28 : Array (Option Value)} {oc28 kV28 dc28 pm28 cd28 ct28 : Value}
    {od29 an29 : Option Addr} {sl29 : Array (Option Value)} {oc29 kV29 dc29 pm29 cd29 ct29 : Value}
    {od30 an30 : Option Addr} {sl30 : Array (Option Value)} {oc30 kV30 dc30 pm30 cd30 ct30 : Value}
    {od31 an31 : Option Addr} {sl31 : Array (Option Value)} {oc31 kV31 dc31 pm31 cd31 ct31 : Value}
    {od32 an32 : Option Addr} {sl32 : Array (Option Value)} {oc32 kV32 dc32 pm32 cd32 ct32 : Value}
    {od33 an33 : Option Addr} {sl33 : Array (Option Value)} {oc33 kV33 dc33 pm33 cd33 ct33 : Value}
    {odC_Flip : Option Addr} {slC_Flip : Array (Option Value)} {cd_Flip : ClassData}
    {t_MOST_THINGS : Tok} (X : K.In h) (G : h.Ns mainGlobals mg) (hfa : mg "law" = some (.ref fa))
    (aC_Flip : PySem.W.nsIn K mainGlobals "Flip" = some (some (.ref C_Flip)))
    (a0 : PySem.W.nsIn K mainGlobals "is_whole" = some (some (.ref a_is_whole)))
    (l0 : K.lookup a_is_whole = some ⟨oc0, od0, .func (PySem.W.fnOf "is_whole" "is_whole" (defArgs s_is_whole) (defBody s_is_whole) (defScope s_is_whole) .none kV0 dc0 pm0 an0 cd0 ct0), sl0⟩)
    (c0 : PySem.W.codeIn K cd0 "is_whole" = true)
    (k0 : PySem.W.keepIn K (.ref a_is_whole) = true)
    (a1 : PySem.W.nsIn K mainGlobals "as_tuples" = some (some (.ref a_as_tuples)))
    (l1 : K.lookup a_as_tuples = some ⟨oc1, od1, .func (PySem.W.fnOf "as_tuples" "as_tuples" (defArgs s_as_tuples) (defBody s_as_tuples) (defScope s_as_tuples) .none kV1 dc1 pm1 an1 cd1 ct1), sl1⟩)
    (c1 : PySem.W.codeIn K cd1 "as_tuples" = true)
    (k1 : PySem.W.keepIn K (.ref a_as_tuples) = true)
    (a2 : PySem.W.nsIn K mainGlobals "lowest" = some (some (.ref a_lowest)))
    (l2 : K.lookup a_lowest = some ⟨oc2, od2, .func (PySem.W.fnOf "lowest" "lowest" (defArgs s_lowest) (defBody s_lowest) (defScope s_lowest) .none kV2 dc2 pm2 an2 cd2 ct2), sl2⟩)
    (c2 : PySem.W.codeIn K cd2 "lowest" = true)
    (k2 : PySem.W.keepIn K (.ref a_lowest) = true)
    (a3 : PySem.W.nsIn K mainGlobals "added" = some (some (.ref a_added)))
    (l3 : K.lookup a_added = some ⟨oc3, od3, .func (PySem.W.fnOf "added" "added" (defArgs s_added) (defBody s_added) (defScope s_added) .none kV3 dc3 pm3 an3 cd3 ct3), sl3⟩)
    (c3 : PySem.W.codeIn K cd3 "added" = true)
    (k3 : PySem.W.keepIn K (.ref a_added) = true)
    (a4 : PySem.W.nsIn K mainGlobals "times" = some (some (.ref a_times)))
    (l4 : K.lookup a_times = some ⟨oc4, od4, .func (PySem.W.fnOf "times" "times" (defArgs s_times) (defBody s_times) (defScope s_times) .none kV4 dc4 pm4 an4 cd4 ct4), sl4⟩)
    (c4 : PySem.W.codeIn K cd4 "times" = true)
    (k4 : PySem.W.keepIn K (.ref a_times) = true)
    (a5 : PySem.W.nsIn K mainGlobals "is_less" = some (some (.ref a_is_less)))
    (l5 : K.lookup a_is_less = some ⟨oc5, od5, .func (PySem.W.fnOf "is_less" "is_less" (defArgs s_is_less) (defBody s_is_less) (defScope s_is_less) .none kV5 dc5 pm5 an5 cd5 ct5), sl5⟩)
    (c5 : PySem.W.codeIn K cd5 "is_less" = true)
    (k5 : PySem.W.keepIn K (.ref a_is_less) = true)
    (a6 : PySem.W.findIn K (.ref C_Flip) "__init__" = some (some (.ref a_Flip___init__)))
    (i6 : PySem.W.isFn K (.ref a_Flip___init__) = true)
    (l6 : K.lookup a_Flip___init__ = some ⟨oc6, od6, .func (PySem.W.fnOf "__init__" "Flip.__init__" (defArgs s_Flip___init__) (defBody s_Flip___init__) (defScope s_Flip___init__) .none kV6 dc6 pm6 an6 cd6 ct6), sl6⟩)
    (c6 : PySem.W.codeIn K cd6 "Flip.__init__" = true)
    (k6 : PySem.W.keepIn K (.ref a_Flip___init__) = true)
    (a7 : PySem.W.nsIn K mainGlobals "need_things" = some (some (.ref a_need_things)))
    (l7 : K.lookup a_need_things = some ⟨oc7, od7, .func (PySem.W.fnOf "need_things" "need_things" (defArgs s_need_things) (defBody s_need_things) (defScope s_need_things) .none kV7 dc7 pm7 an7 cd7 ct7), sl7⟩)
    (c7 : PySem.W.codeIn K cd7 "need_things" = true)
    (k7 : PySem.W.keepIn K (.ref a_need_things) = true)
    (a8 : PySem.W.nsIn K mainGlobals "known_places" = some (some (.ref a_known_places)))
    (l8 : K.lookup a_known_places = some ⟨oc8, od8, .func (PySem.W.fnOf "known_places" "known_places" (defArgs s_known_places) (defBody s_known_places) (defScope s_known_places) .none kV8 dc8 pm8 an8 cd8 ct8), sl8⟩)
    (c8 : PySem.W.codeIn K cd8 "known_places" = true)
    (k8 : PySem.W.keepIn K (.ref a_known_places) = true)
    (a9 : PySem.W.nsIn K mainGlobals "lot_chance_by" = some (some (.ref a_lot_chance_by)))
    (l9 : K.lookup a_lot_chance_by = some ⟨oc9, od9, .func (PySem.W.fnOf "lot_chance_by" "lot_chance_by" (defArgs s_lot_chance_by) (defBody s_lot_chance_by) (defScope s_lot_chance_by) .none kV9 dc9 pm9 an9 cd9 ct9), sl9⟩)
    (c9 : PySem.W.codeIn K cd9 "lot_chance_by" = true)
    (k9 : PySem.W.keepIn K (.ref a_lot_chance_by) = true)
    (a10 : PySem.W.nsIn K mainGlobals "chance_of_best" = some (some (.ref a_chance_of_best)))
    (l10 : K.lookup a_chance_of_best = some ⟨oc10, od10, .func (PySem.W.fnOf "chance_of_best" "chance_of_best" (defArgs s_chance_of_best) (defBody s_chance_of_best) (defScope s_chance_of_best) .none kV10 dc10 pm10 an10 cd10 ct10), sl10⟩)
    (c10 : PySem.W.codeIn K cd10 "chance_of_best" = true)
    (k10 : PySem.W.keepIn K (.ref a_chance_of_best) = true)
    (a11 : PySem.W.nsIn K mainGlobals "chances_behind" = some (some (.ref a_chances_behind)))
    (l11 : K.lookup a_chances_behind = some ⟨oc11, od11, .func (PySem.W.fnOf "chances_behind" "chances_behind" (defArgs s_chances_behind) (defBody s_chances_behind) (defScope s_chances_behind) .none kV11 dc11 pm11 an11 cd11 ct11), sl11⟩)
    (c11 : PySem.W.codeIn K cd11 "chances_behind" = true)
    (k11 : PySem.W.keepIn K (.ref a_chances_behind) = true)
    (a12 : PySem.W.nsIn K mainGlobals "behind_chances" = some (some (.ref a_behind_chances)))
    (l12 : K.lookup a_behind_chances = some ⟨oc12, od12, .func (PySem.W.fnOf "behind_chances" "behind_chances" (defArgs s_behind_chances) (defBody s_behind_chances) (defScope s_behind_chances) .none kV12 dc12 pm12 an12 cd12 ct12), sl12⟩)
    (c12 : PySem.W.codeIn K cd12 "behind_chances" = true)
    (k12 : PySem.W.keepIn K (.ref a_behind_chances) = true)
    (a13 : PySem.W.nsIn K mainGlobals "greatest_chance" = some (some (.ref a_greatest_chance)))
    (l13 : K.lookup a_greatest_chance = some ⟨oc13, od13, .func (PySem.W.fnOf "greatest_chance" "greatest_chance" (defArgs s_greatest_chance) (defBody s_greatest_chance) (defScope s_greatest_chance) .none kV13 dc13 pm13 an13 cd13 ct13), sl13⟩)
    (c13 : PySem.W.codeIn K cd13 "greatest_chance" = true)
    (k13 : PySem.W.keepIn K (.ref a_greatest_chance) = true)
    (a14 : PySem.W.nsIn K mainGlobals "best_start" = some (some (.ref a_best_start)))
    (l14 : K.lookup a_best_start = some ⟨oc14, od14, .func (PySem.W.fnOf "best_start" "best_start" (defArgs s_best_start) (defBody s_best_start) (defScope s_best_start) .none kV14 dc14 pm14 an14 cd14 ct14), sl14⟩)
    (c14 : PySem.W.codeIn K cd14 "best_start" = true)
    (k14 : PySem.W.keepIn K (.ref a_best_start) = true)
    (a15 : PySem.W.nsIn K mainGlobals "is_flip" = some (some (.ref a_is_flip)))
    (l15 : K.lookup a_is_flip = some ⟨oc15, od15, .func (PySem.W.fnOf "is_flip" "is_flip" (defArgs s_is_flip) (defBody s_is_flip) (defScope s_is_flip) .none kV15 dc15 pm15 an15 cd15 ct15), sl15⟩)
    (c15 : PySem.W.codeIn K cd15 "is_flip" = true)
    (k15 : PySem.W.keepIn K (.ref a_is_flip) = true)
    (a16 : PySem.W.nsIn K mainGlobals "first_flip" = some (some (.ref a_first_flip)))
    (l16 : K.lookup a_first_flip = some ⟨oc16, od16, .func (PySem.W.fnOf "first_flip" "first_flip" (defArgs s_first_flip) (defBody s_first_flip) (defScope s_first_flip) .none kV16 dc16 pm16 an16 cd16 ct16), sl16⟩)
    (c16 : PySem.W.codeIn K cd16 "first_flip" = true)
    (k16 : PySem.W.keepIn K (.ref a_first_flip) = true)
    (a17 : PySem.W.nsIn K mainGlobals "best_lots_many" = some (some (.ref a_best_lots_many)))
    (l17 : K.lookup a_best_lots_many = some ⟨oc17, od17, .func (PySem.W.fnOf "best_lots_many" "best_lots_many" (defArgs s_best_lots_many) (defBody s_best_lots_many) (defScope s_best_lots_many) .none kV17 dc17 pm17 an17 cd17 ct17), sl17⟩)
    (c17 : PySem.W.codeIn K cd17 "best_lots_many" = true)
    (k17 : PySem.W.keepIn K (.ref a_best_lots_many) = true)
    (a18 : PySem.W.nsIn K mainGlobals "_law_sum_of" = some (some (.ref a__law_sum_of)))
    (l18 : K.lookup a__law_sum_of = some ⟨oc18, od18, .func (PySem.W.fnOf "_law_sum_of" "_law_sum_of" (defArgs s__law_sum_of) (defBody s__law_sum_of) (defScope s__law_sum_of) .none kV18 dc18 pm18 an18 cd18 ct18), sl18⟩)
    (c18 : PySem.W.codeIn K cd18 "_law_sum_of" = true)
    (k18 : PySem.W.keepIn K (.ref a__law_sum_of) = true)
    (a19 : PySem.W.nsIn K mainGlobals "_law_greater" = some (some (.ref a__law_greater)))
    (l19 : K.lookup a__law_greater = some ⟨oc19, od19, .func (PySem.W.fnOf "_law_greater" "_law_greater" (defArgs s__law_greater) (defBody s__law_greater) (defScope s__law_greater) .none kV19 dc19 pm19 an19 cd19 ct19), sl19⟩)
    (c19 : PySem.W.codeIn K cd19 "_law_greater" = true)
    (k19 : PySem.W.keepIn K (.ref a__law_greater) = true)
    (a20 : PySem.W.nsIn K mainGlobals "_law_pen" = some (some (.ref a__law_pen)))
    (l20 : K.lookup a__law_pen = some ⟨oc20, od20, .func (PySem.W.fnOf "_law_pen" "_law_pen" (defArgs s__law_pen) (defBody s__law_pen) (defScope s__law_pen) .none kV20 dc20 pm20 an20 cd20 ct20), sl20⟩)
    (c20 : PySem.W.codeIn K cd20 "_law_pen" = true)
    (k20 : PySem.W.keepIn K (.ref a__law_pen) = true)
    (a21 : PySem.W.nsIn K mainGlobals "_law_draw" = some (some (.ref a__law_draw)))
    (l21 : K.lookup a__law_draw = some ⟨oc21, od21, .func (PySem.W.fnOf "_law_draw" "_law_draw" (defArgs s__law_draw) (defBody s__law_draw) (defScope s__law_draw) .none kV21 dc21 pm21 an21 cd21 ct21), sl21⟩)
    (c21 : PySem.W.codeIn K cd21 "_law_draw" = true)
    (k21 : PySem.W.keepIn K (.ref a__law_draw) = true)
    (a22 : PySem.W.nsIn K mainGlobals "_law_pick" = some (some (.ref a__law_pick)))
    (l22 : K.lookup a__law_pick = some ⟨oc22, od22, .func (PySem.W.fnOf "_law_pick" "_law_pick" (defArgs s__law_pick) (defBody s__law_pick) (defScope s__law_pick) .none kV22 dc22 pm22 an22 cd22 ct22), sl22⟩)
    (c22 : PySem.W.codeIn K cd22 "_law_pick" = true)
    (k22 : PySem.W.keepIn K (.ref a__law_pick) = true)
    (a23 : PySem.W.nsIn K mainGlobals "_law_is" = some (some (.ref a__law_is)))
    (l23 : K.lookup a__law_is = some ⟨oc23, od23, .func (PySem.W.fnOf "_law_is" "_law_is" (defArgs s__law_is) (defBody s__law_is) (defScope s__law_is) .none kV23 dc23 pm23 an23 cd23 ct23), sl23⟩)
    (c23 : PySem.W.codeIn K cd23 "_law_is" = true)
    (k23 : PySem.W.keepIn K (.ref a__law_is) = true)
    (a24 : PySem.W.nsIn K mainGlobals "_law_gcd" = some (some (.ref a__law_gcd)))
    (l24 : K.lookup a__law_gcd = some ⟨oc24, od24, .func (PySem.W.fnOf "_law_gcd" "_law_gcd" (defArgs s__law_gcd) (defBody s__law_gcd) (defScope s__law_gcd) .none kV24 dc24 pm24 an24 cd24 ct24), sl24⟩)
    (c24 : PySem.W.codeIn K cd24 "_law_gcd" = true)
    (k24 : PySem.W.keepIn K (.ref a__law_gcd) = true)
    (a25 : PySem.W.nsIn K mainGlobals "_law_pair" = some (some (.ref a__law_pair)))
    (l25 : K.lookup a__law_pair = some ⟨oc25, od25, .func (PySem.W.fnOf "_law_pair" "_law_pair" (defArgs s__law_pair) (defBody s__law_pair) (defScope s__law_pair) .none kV25 dc25 pm25 an25 cd25 ct25), sl25⟩)
    (c25 : PySem.W.codeIn K cd25 "_law_pair" = true)
    (k25 : PySem.W.keepIn K (.ref a__law_pair) = true)
    (a26 : PySem.W.nsIn K mainGlobals "_law_add" = some (some (.ref a__law_add)))
    (l26 : K.lookup a__law_add = some ⟨oc26, od26, .func (PySem.W.fnOf "_law_add" "_law_add" (defArgs s__law_add) (defBody s__law_add) (defScope s__law_add) .none kV26 dc26 pm26 an26 cd26 ct26), sl26⟩)
    (c26 : PySem.W.codeIn K cd26 "_law_add" = true)
    (k26 : PySem.W.keepIn K (.ref a__law_add) = true)
    (a27 : PySem.W.nsIn K mainGlobals "_law_mul" = some (some (.ref a__law_mul)))
    (l27 : K.lookup a__law_mul = some ⟨oc27, od27, .func (PySem.W.fnOf "_law_mul" "_law_mul" (defArgs s__law_mul) (defBody s__law_mul) (defScope s__law_mul) .none kV27 dc27 pm27 an27 cd27 ct27), sl27⟩)
    (c27 : PySem.W.codeIn K cd27 "_law_mul" = true)
    (k27 : PySem.W.keepIn K (.ref a__law_mul) = true)
    (a28 : PySem.W.nsIn K mainGlobals "_law_below" = some (some (.ref a__law_below)))
    (l28 : K.lookup a__law_below = some ⟨oc28, od28, .func (PySem.W.fnOf "_law_below" "_law_below" (defArgs s__law_below) (defBody s__law_below) (defScope s__law_below) .none kV28 dc28 pm28 an28 cd28 ct28), sl28⟩)
    (c28 : PySem.W.codeIn K cd28 "_law_below" = true)
    (k28 : PySem.W.keepIn K (.ref a__law_below) = true)
    (a29 : PySem.W.nsIn K mainGlobals "_law_lots" = some (some (.ref a__law_lots)))
    (l29 : K.lookup a__law_lots = some ⟨oc29, od29, .func (PySem.W.fnOf "_law_lots" "_law_lots" (defArgs s__law_lots) (defBody s__law_lots) (defScope s__law_lots) .none kV29 dc29 pm29 an29 cd29 ct29), sl29⟩)
    (c29 : PySem.W.codeIn K cd29 "_law_lots" = true)
    (k29 : PySem.W.keepIn K (.ref a__law_lots) = true)
    (a30 : PySem.W.nsIn K mainGlobals "_law_behind" = some (some (.ref a__law_behind)))
    (l30 : K.lookup a__law_behind = some ⟨oc30, od30, .func (PySem.W.fnOf "_law_behind" "_law_behind" (defArgs s__law_behind) (defBody s__law_behind) (defScope s__law_behind) .none kV30 dc30 pm30 an30 cd30 ct30), sl30⟩)
    (c30 : PySem.W.codeIn K cd30 "_law_behind" = true)
    (k30 : PySem.W.keepIn K (.ref a__law_behind) = true)
    (a31 : PySem.W.nsIn K mainGlobals "_law_start" = some (some (.ref a__law_start)))
    (l31 : K.lookup a__law_start = some ⟨oc31, od31, .func (PySem.W.fnOf "_law_start" "_law_start" (defArgs s__law_start) (defBody s__law_start) (defScope s__law_start) .none kV31 dc31 pm31 an31 cd31 ct31), sl31⟩)
    (c31 : PySem.W.codeIn K cd31 "_law_start" = true)
    (k31 : PySem.W.keepIn K (.ref a__law_start) = true)
    (a32 : PySem.W.nsIn K mainGlobals "_law_best_of" = some (some (.ref a__law_best_of)))
    (l32 : K.lookup a__law_best_of = some ⟨oc32, od32, .func (PySem.W.fnOf "_law_best_of" "_law_best_of" (defArgs s__law_best_of) (defBody s__law_best_of) (defScope s__law_best_of) .none kV32 dc32 pm32 an32 cd32 ct32), sl32⟩)
    (c32 : PySem.W.codeIn K cd32 "_law_best_of" = true)
    (k32 : PySem.W.keepIn K (.ref a__law_best_of) = true)
    (a33 : PySem.W.nsIn K mainGlobals "law" = some (some (.ref a_law)))
    (l33 : K.lookup a_law = some ⟨oc33, od33, .func (PySem.W.fnOf "law" "law" (defArgs s_law) (defBody s_law) (defScope s_law) .none kV33 dc33 pm33 an33 cd33 ct33), sl33⟩)
    (c33 : PySem.W.codeIn K cd33 "law" = true)
    (k33 : PySem.W.keepIn K (.ref a_law) = true)
    (pg_Flip : PySem.W.plainGet K C_Flip Str.empty = true)
    (hd_Flip : PySem.W.hasDictIn K C_Flip = true)
    (po_Flip : PySem.W.plainOver K C_Flip = true)
    (sa_Flip : PySem.W.findIn K (.ref C_Flip) "__setattr__" = some (some (.builtin "object.__setattr__")))
    (mk_Flip : PySem.W.makesIn K C_Flip = true)
    (kc_Flip : PySem.W.keepIn K (.ref C_Flip) = true)
    (ha_Flip : PySem.W.findIn K (.ref C_Flip) "__class__" = some (some (.builtin "object.__class__")))
    (hm_Flip : PySem.W.mroIn K C_Flip (.type "object") = some true)
    (lC_Flip : K.lookup C_Flip = some ⟨.type "type", odC_Flip, .cls cd_Flip, slC_Flip⟩)
    (mr_Flip : cd_Flip.mro = [.ref C_Flip, .type "object"])
    (n_Flip_place : PySem.W.findIn K (.ref C_Flip) "place" = some none)
    (hn : PySem.W.specialIn K (.builtin "object.__class__") "__get__" = some (some (.builtin "getset_descriptor.__get__")))
    (htk : PySem.W.takesIn K (.builtin "object.__class__") = some true)
    (z_abs : PySem.W.nsIn K mainGlobals "abs" = some none)
    (z_all : PySem.W.nsIn K mainGlobals "all" = some none)
    (z_bool : PySem.W.nsIn K mainGlobals "bool" = some none)
    (z_int : PySem.W.nsIn K mainGlobals "int" = some none)
    (z_isinstance : PySem.W.nsIn K mainGlobals "isinstance" = some none)
    (z_len : PySem.W.nsIn K mainGlobals "len" = some none)
    (z_list : PySem.W.nsIn K mainGlobals "list" = some none)
    (z_range : PySem.W.nsIn K mainGlobals "range" = some none)
    (z_sorted : PySem.W.nsIn K mainGlobals "sorted" = some none)
    (z_str : PySem.W.nsIn K mainGlobals "str" = some none)
    (z_tuple : PySem.W.nsIn K mainGlobals "tuple" = some none)
    (z_zip : PySem.W.nsIn K mainGlobals "zip" = some none)
    (c_MOST_THINGS : PySem.W.nsIn K mainGlobals "MOST_THINGS" = some (some (.int 60 t_MOST_THINGS)))
    (yg : PySem.W.nsIn K mainGlobals "gcd" = some (some (.builtin "math.gcd"))) :
    ∃ fd : FuncData, (∀ (s : Shared) (v : Value), BindsTo s fd ⟨[v], []⟩ [("script", v)]) ∧ ∀ base : Heap, K.In base → base.Ns mainGlobals mg → FnOk l.prog w K mg base CX0 (2 * FUEL) fa fd ["script"] (spL d_gl d_tb FUEL K) := by
  have e := hfa.symm.trans (PySem.W.mg_of X G a33)
  cases e
  have F0 := fun_mk (st := s_is_whole) l0 c0 k0
  have B0 := F0.binds (ps := ["value"]) fun _ _ _ _ _ _ us hl => match us, hl with | [_], _ => rfl
  have F1 := fun_mk (st := s_as_tuples) l1 c1 k1
  have B1 := F1.binds (ps := ["value"]) fun _ _ _ _ _ _ us hl => match us, hl with | [_], _ => rfl
  have F2 := fun_mk (st := s_lowest) l2 c2 k2
  have B2 := F2.binds (ps := ["top", "bottom"]) fun _ _ _ _ _ _ us hl => match us, hl with | [_, _], _ => rfl
  have F3 := fun_mk (st := s_added) l3 c3 k3
  have B3 := F3.binds (ps := ["one", "other"]) fun _ _ _ _ _ _ us hl => match us, hl with | [_, _], _ => rfl
  have F4 := fun_mk (st := s_times) l4 c4 k4
  have B4 := F4.binds (ps := ["one", "other"]) fun _ _ _ _ _ _ us hl => match us, hl with | [_, _], _ => rfl
  have F5 := fun_mk (st := s_is_less) l5 c5 k5
  have B5 := F5.binds (ps := ["one", "other"]) fun _ _ _ _ _ _ us hl => match us, hl with | [_, _], _ => rfl
  have F6 := fun_mk (st := s_Flip___init__) l6 c6 k6
  have B6 := F6.binds (ps := ["self", "place"]) fun _ _ _ _ _ _ us hl => match us, hl with | [_, _], _ => rfl
  have F7 := fun_mk (st := s_need_things) l7 c7 k7
  have B7 := F7.binds (ps := ["number"]) fun _ _ _ _ _ _ us hl => match us, hl with | [_], _ => rfl
  have F8 := fun_mk (st := s_known_places) l8 c8 k8
  have B8 := F8.binds (ps := ["number", "lot"]) fun _ _ _ _ _ _ us hl => match us, hl with | [_, _], _ => rfl
  have F9 := fun_mk (st := s_lot_chance_by) l9 c9 k9
  have B9 := F9.binds (ps := ["number", "lot"]) fun _ _ _ _ _ _ us hl => match us, hl with | [_, _], _ => rfl
  have F10 := fun_mk (st := s_chance_of_best) l10 c10 k10
  have B10 := F10.binds (ps := ["number", "lot"]) fun _ _ _ _ _ _ us hl => match us, hl with | [_, _], _ => rfl
  have F11 := fun_mk (st := s_chances_behind) l11 c11 k11
  have B11 := F11.binds (ps := ["number"]) fun _ _ _ _ _ _ us hl => match us, hl with | [_], _ => rfl
  have F12 := fun_mk (st := s_behind_chances) l12 c12 k12
  have B12 := F12.binds (ps := ["number"]) fun _ _ _ _ _ _ us hl => match us, hl with | [_], _ => rfl
  have F13 := fun_mk (st := s_greatest_chance) l13 c13 k13
  have B13 := F13.binds (ps := ["number"]) fun _ _ _ _ _ _ us hl => match us, hl with | [_], _ => rfl
  have F14 := fun_mk (st := s_best_start) l14 c14 k14
  have B14 := F14.binds (ps := ["number"]) fun _ _ _ _ _ _ us hl => match us, hl with | [_], _ => rfl
  have F15 := fun_mk (st := s_is_flip) l15 c15 k15
  have B15 := F15.binds (ps := ["number", "lot", "place", "behind"]) fun _ _ _ _ _ _ us hl => match us, hl with | [_, _, _, _], _ => rfl
  have F16 := fun_mk (st := s_first_flip) l16 c16 k16
  have B16 := F16.binds (ps := ["number", "lot"]) fun _ _ _ _ _ _ us hl => match us, hl with | [_, _], _ => rfl
  have F17 := fun_mk (st := s_best_lots_many) l17 c17 k17
  have B17 := F17.binds (ps := ["number"]) fun _ _ _ _ _ _ us hl => match us, hl with | [_], _ => rfl
  have F18 := fun_mk (st := s__law_sum_of) l18 c18 k18
  have B18 := F18.binds (ps := ["rows"]) fun _ _ _ _ _ _ us hl => match us, hl with | [_], _ => rfl
  have F19 := fun_mk (st := s__law_greater) l19 c19 k19
  have B19 := F19.binds (ps := ["one", "other"]) fun _ _ _ _ _ _ us hl => match us, hl with | [_, _], _ => rfl
  have F20 := fun_mk (st := s__law_pen) l20 c20 k20
  have B20 := F20.binds (ps := ["script"]) fun _ _ _ _ _ _ us hl => match us, hl with | [_], _ => rfl
  have F21 := fun_mk (st := s__law_draw) l21 c21 k21
  have B21 := F21.binds (ps := ["pen", "many"]) fun _ _ _ _ _ _ us hl => match us, hl with | [_, _], _ => rfl
  have F22 := fun_mk (st := s__law_pick) l22 c22 k22
  have B22 := F22.binds (ps := ["pen", "some"]) fun _ _ _ _ _ _ us hl => match us, hl with | [_, _], _ => rfl
  have F23 := fun_mk (st := s__law_is) l23 c23 k23
  have B23 := F23.binds (ps := ["told", "due"]) fun _ _ _ _ _ _ us hl => match us, hl with | [_, _], _ => rfl
  have F24 := fun_mk (st := s__law_gcd) l24 c24 k24
  have B24 := F24.binds (ps := ["one", "other"]) fun _ _ _ _ _ _ us hl => match us, hl with | [_, _], _ => rfl
  have F25 := fun_mk (st := s__law_pair) l25 c25 k25
  have B25 := F25.binds (ps := ["top", "bottom"]) fun _ _ _ _ _ _ us hl => match us, hl with | [_, _], _ => rfl
  have F26 := fun_mk (st := s__law_add) l26 c26 k26
  have B26 := F26.binds (ps := ["one", "other"]) fun _ _ _ _ _ _ us hl => match us, hl with | [_, _], _ => rfl
  have F27 := fun_mk (st := s__law_mul) l27 c27 k27
  have B27 := F27.binds (ps := ["one", "other"]) fun _ _ _ _ _ _ us hl => match us, hl with | [_, _], _ => rfl
  have F28 := fun_mk (st := s__law_below) l28 c28 k28
  have B28 := F28.binds (ps := ["one", "other"]) fun _ _ _ _ _ _ us hl => match us, hl with | [_, _], _ => rfl
  have F29 := fun_mk (st := s__law_lots) l29 c29 k29
  have B29 := F29.binds (ps := ["many"]) fun _ _ _ _ _ _ us hl => match us, hl with | [_], _ => rfl
  have F30 := fun_mk (st := s__law_behind) l30 c30 k30
  have B30 := F30.binds (ps := ["number"]) fun _ _ _ _ _ _ us hl => match us, hl with | [_], _ => rfl
  have F31 := fun_mk (st := s__law_start) l31 c31 k31
  have B31 := F31.binds (ps := ["number"]) fun _ _ _ _ _ _ us hl => match us, hl with | [_], _ => rfl
  have F32 := fun_mk (st := s__law_best_of) l32 c32 k32
  have B32 := F32.binds (ps := ["number"]) fun _ _ _ _ _ _ us hl => match us, hl with | [_], _ => rfl
  have F33 := fun_mk (st := s_law) l33 c33 k33
  have B33 := F33.binds (ps := ["script"]) fun _ _ _ _ _ _ us hl => match us, hl with | [_], _ => rfl
  have K_Flip : ClsOk K flds C_Flip := ⟨⟨⟨pg_Flip, hd_Flip, po_Flip, sa_Flip⟩, ha_Flip, hn, htk, hm_Flip, cls_me⟩, cls_kc lC_Flip, cls_mro lC_Flip mr_Flip, fun f hf => by
    simp only [flds, List.mem_cons, List.not_mem_nil, or_false] at hf
    rcases hf with rfl
    all_goals first | exact n_Flip_place⟩
  have CL : Clss ⟨K, cA [C_Flip]⟩ flds := by
    refine ⟨fun c C h => ?_, fun c d C h1 h2 => ?_⟩
    · revert h
      show cA [C_Flip] c = some C → _
      unfold cA
      split <;> intro h <;> first | (cases h; exact K_Flip) | cases h
    · revert h1 h2
      show cA [C_Flip] c = some C → cA [C_Flip] d = some C → _
      unfold cA
      split <;> split <;> intro h1 h2 <;> first | rfl | (cases h1; done) | (cases h2; done)
  exact ⟨PySem.W.fnOf "law" "law" (defArgs s_law) (defBody s_law) (defScope s_law) .none kV33 dc33 pm33 an33 cd33 ct33, fun s v => .of_eq rfl, fun base _ _ => ((all_ok ⟨F0, B0, PySem.W.mg_of X G a0, F1, B1, PySem.W.mg_of X G a1, F2, B2, PySem.W.mg_of X G a2, F3, B3, PySem.W.mg_of X G a3, F4, B4, PySem.W.mg_of X G a4, F5, B5, PySem.W.mg_of X G a5, F6, B6, F7, B7, PySem.W.mg_of X G a7, F8, B8, PySem.W.mg_of X G a8, F9, B9, PySem.W.mg_of X G a9, F10, B10, PySem.W.mg_of X G a10, F11, B11, PySem.W.mg_of X G a11, F12, B12, PySem.W.mg_of X G a12, F13, B13, PySem.W.mg_of X G a13, F14, B14, PySem.W.mg_of X G a14, F15, B15, PySem.W.mg_of X G a15, F16, B16, PySem.W.mg_of X G a16, F17, B17, PySem.W.mg_of X G a17, F18, B18, PySem.W.mg_of X G a18, F19, B19, PySem.W.mg_of X G a19, F20, B20, PySem.W.mg_of X G a20, F21, B21, PySem.W.mg_of X G a21, F22, B22, PySem.W.mg_of X G a22, F23, B23, PySem.W.mg_of X G a23, F24, B24, PySem.W.mg_of X G a24, F25, B25, PySem.W.mg_of X G a25, F26, B26, PySem.W.mg_of X G a26, F27, B27, PySem.W.mg_of X G a27, F28, B28, PySem.W.mg_of X G a28, F29, B29, PySem.W.mg_of X G a29, F30, B30, PySem.W.mg_of X G a30, F31, B31, PySem.W.mg_of X G a31, F32, B32, PySem.W.mg_of X G a32, F33, B33, PySem.W.mg_of X G a33, PySem.W.mg_of X G aC_Flip, ⟨mk_Flip, a6, i6, kc_Flip⟩, PySem.W.mg_none_of X G z_abs, PySem.W.mg_none_of X G z_all, PySem.W.mg_none_of X G z_bool, PySem.W.mg_none_of X G z_int, PySem.W.mg_none_of X G z_isinstance, PySem.W.mg_none_of X G z_len, PySem.W.mg_none_of X G z_list, PySem.W.mg_none_of X G z_range, PySem.W.mg_none_of X G z_sorted, PySem.W.mg_none_of X G z_str, PySem.W.mg_none_of X G z_tuple, PySem.W.mg_none_of X G z_zip, ⟨_, PySem.W.mg_of X G c_MOST_THINGS⟩, PySem.W.mg_of X G yg, CL⟩ FUEL).o_law.imp fun vs H Q E h => h _)⟩
end K63

/-! PL1: the evaluator by rewriting -/
namespace PV
/-- what goes on behind an answer; given as an instance, so that rewriting does not look into it ahead of its time -/
class Kont (α β : Type) where
  run : α → Option β
def bindI {α β : Type} (o : Option α) [k : Kont α β] : Option β := o.bind k.run
@[simp] theorem bindI_some {α β : Type} {a : α} {f : α → Option β} : @bindI α β (some a) ⟨f⟩ = f a := rfl
@[simp] theorem bindI_none {α β : Type} {f : α → Option β} : @bindI α β none ⟨f⟩ = none := rfl
theorem bindI_eq {α β : Type} {o : Option α} {f : α → Option β} : @bindI α β o ⟨f⟩ = o.bind f := rfl
@[simp ↓] theorem ev_bind {α β : Type} (m : M α) (f : α → M β) (g : G) : (m >>= f) g = @bindI _ _ (m g) ⟨fun p => f p.1 p.2⟩ := by
  show (match m g with | none => none | some (a, g') => f a g') = _
  cases m g <;> rfl
@[simp] theorem ev_pure {α : Type} (a : α) (g : G) : (M.pure a : M α) g = some (a, g) := rfl
@[simp] theorem ev_fail {α : Type} (g : G) : (M.fail : M α) g = none := rfl
@[simp] theorem ev_lift {α : Type} (o : Option α) (g : G) : (lift o : M α) g = @bindI _ _ o ⟨fun a => some (a, g)⟩ := by cases o <;> rfl
@[simp] theorem ev_ask (b : Bool) (g : G) : ask b g = if b = true then some ((), g) else none := by cases b <;> rfl
@[simp] theorem ev_ite {α : Type} (c : Prop) [Decidable c] (a b : M α) (g : G) : (if c then a else b) g = if c then a g else b g := by split <;> rfl
@[simp] theorem ev_peek (i : Nat) (g : G) : peek i g = @bindI _ _ (g[i]?) ⟨fun s => @bindI _ _ s.get ⟨fun t => some (t, g)⟩⟩ := by
  unfold peek
  cases g[i]? with
  | none => rfl
  | some s => cases h : s.get <;> simp [h]
@[simp] theorem get_sh (t : T) : (Slot.sh t).get = some t := rfl
@[simp] theorem get_ow (t : T) : (Slot.ow t).get = some t := rfl
@[simp] theorem get_bo (t : T) : (Slot.bo t).get = some t := rfl
@[simp] theorem get_lk (t : T) : (Slot.lk t).get = some t := rfl
@[simp] theorem kept_var (i : Nat) (m : M (Bool × T)) : kept (.var i) m = rd i := rfl
theorem evF_at {gl : String → Option T} {tb : String → Option Fd} {k : Nat} {f : String} {d : Fd} {ts : List T} (h : tb f = some d) : evF gl tb (k + 1) f ts = evB gl (evF gl tb k) d ts := by
  simp only [evF, h]
section
variable {gl : String → Option T} {cl : Cl}
@[simp] theorem r1_evX : evX gl cl (.non : CE) = (M.pure (false, .non)) := by rw [evX] <;> rfl
@[simp] theorem r2_evX : evX gl cl (.bl b : CE) = (M.pure (false, .bl b)) := by rw [evX] <;> rfl
@[simp] theorem r3_evX : evX gl cl (.int i : CE) = (M.pure (false, .int i)) := by rw [evX] <;> rfl
@[simp] theorem r4_evX : evX gl cl (.str s : CE) = (M.pure (false, .str s)) := by rw [evX] <;> rfl
@[simp] theorem r5_evX : evX gl cl (.var i : CE) = (do let t ← peek i; M.pure (false, t)) := by rw [evX] <;> rfl
@[simp] theorem r6_evX : evX gl cl (.glob x : CE) = (do let t ← lift (gl x); M.pure (false, t)) := by rw [evX] <;> rfl
@[simp] theorem r7_evX : evX gl cl (.tup es : CE) = (do
    let ts ← evL gl cl es
    ask (decide (ts.length ≤ lim))
    M.pure (false, .tup ts)) := by rw [evX] <;> rfl
@[simp] theorem r8_evX : evX gl cl (.lst es : CE) = (do
    let ts ← evL gl cl es
    ask (decide (ts.length ≤ lim))
    M.pure (true, .lst ts)) := by rw [evX] <;> rfl
@[simp] theorem r9_evX : evX gl cl (.star a : CE) = (M.fail) := by rw [evX] <;> rfl
@[simp] theorem r10_evX : evX gl cl (.dnew tk : CE) = (M.pure (true, .dct tk [])) := by rw [evX] <;> rfl
@[simp] theorem r11_evX : evX gl cl (.dct es : CE) = (do
    let kvs ← evKV gl cl es []
    M.pure (true, .dct false kvs)) := by rw [evX] <;> rfl
@[simp] theorem r12_evX : evX gl cl (.bin o a b : CE) = (do
    let x ← kept a (evX gl cl a)
    let y ← kept b (evX gl cl b)
    lift (bin2 o x y)) := by rw [evX] <;> rfl
@[simp] theorem r13_evX : evX gl cl (.neg a : CE) = (do
    let x ← evX gl cl a
    let i ← lift x.2.int?
    M.pure (false, .int (-i))) := by rw [evX] <;> rfl
@[simp] theorem r14_evX : evX gl cl (.not a : CE) = (do
    let x ← evX gl cl a
    let b ← lift x.2.truth
    M.pure (false, .bl (!b))) := by rw [evX] <;> rfl
@[simp] theorem r15_evX : evX gl cl (.and es : CE) = (do let b ← evAnd gl cl es; M.pure (false, .bl b)) := by rw [evX] <;> rfl
@[simp] theorem r16_evX : evX gl cl (.or es : CE) = (do let b ← evOr gl cl es; M.pure (false, .bl b)) := by rw [evX] <;> rfl
@[simp] theorem r17_evX : evX gl cl (.tand es : CE) = (do let b ← evTAnd gl cl es; M.pure (false, .bl b)) := by rw [evX] <;> rfl
@[simp] theorem r18_evX : evX gl cl (.tor es : CE) = (do let b ← evTOr gl cl es; M.pure (false, .bl b)) := by rw [evX] <;> rfl
@[simp] theorem r19_evX : evX gl cl (.ite c a b : CE) = (do
    let r ← evX gl cl c
    let k ← lift r.2.truth
    if k then do
      let x ← kept a (evX gl cl a)
      M.pure (false, x)
    else do
      let x ← kept b (evX gl cl b)
      M.pure (false, x)) := by rw [evX] <;> rfl
@[simp] theorem r20_evX : evX gl cl (.cmp o a b : CE) = (do
    let x ← kept a (evX gl cl a)
    let y ← kept b (evX gl cl b)
    let k ← lift (cmp2 o x y)
    M.pure (false, .bl k)) := by rw [evX] <;> rfl
@[simp] theorem r21_evX : evX gl cl (.chain o o' a b c : CE) = (do
    let x ← kept a (evX gl cl a)
    let y ← kept b (evX gl cl b)
    let k ← lift (cmp2 o x y)
    if k then do
      let z ← kept c (evX gl cl c)
      let k' ← lift (cmp2 o' y z)
      M.pure (false, .bl k')
    else M.pure (false, .bl false)) := by rw [evX] <;> rfl
@[simp] theorem r22_evX : evX gl cl (.isn a neg : CE) = (do
    let x ← evX gl cl a
    M.pure (false, .bl (x.2.isnV neg))) := by rw [evX] <;> rfl
@[simp] theorem r23_evX : evX gl cl (.isb a b neg : CE) = (do
    let x ← evX gl cl a
    M.pure (false, .bl (x.2.isbV b neg))) := by rw [evX] <;> rfl
@[simp] theorem r24_evX : evX gl cl (.mem a b neg : CE) = (do
    let x ← kept a (evX gl cl a)
    let y ← evX gl cl b
    let k ← lift (mem2 x y.2)
    M.pure (false, .bl (if neg then !k else k))) := by rw [evX] <;> rfl
@[simp] theorem r25_evX : evX gl cl (.ix a i : CE) = (do
    let x0 ← pre a (evX gl cl a)
    let k ← kept i (evX gl cl i)
    let x ← post a x0
    let t ← lift (ix2 x k)
    M.pure (false, t)) := by rw [evX] <;> rfl
@[simp] theorem r26_evX : evX gl cl (.slice a lo hi : CE) = (do
    let x0 ← pre a (evX gl cl a)
    let l ← evPart gl cl lo
    let h ← evPart gl cl hi
    let x ← post a x0
    lift (slice2 x l h)) := by rw [evX] <;> rfl
@[simp] theorem r27_evX : evX gl cl (.rev a : CE) = (do
    let x ← evX gl cl a
    lift (rev2 x.2)) := by rw [evX] <;> rfl
@[simp] theorem r28_evX : evX gl cl (.attr a f : CE) = (do
    let x ← evX gl cl a
    match x.2 with
    | .ins _ fs => do let t ← lift (fs.lookup f); M.pure (false, t)
    | _ => M.fail) := by rw [evX] <;> rfl
@[simp] theorem r29_evX : evX gl cl (.call f as : CE) = (do
    ask (decide (lentOf as).Nodup)
    let ts0 ← evArgs gl cl as
    let ts ← fillArgs as ts0
    let r ← lift (cl f ts)
    backArgs (lentOf as) r.outs
    M.pure (r.own, r.t)) := by rw [evX] <;> rfl
@[simp] theorem r30_evX : evX gl cl (.bor i : CE) = (M.fail) := by rw [evX] <;> rfl
@[simp] theorem r31_evX : evX gl cl (.make c as : CE) = (do
    let ts ← evKept gl cl as
    let r ← lift (cl (c ++ ".__init__") (.ins c [] :: ts))
    match r.t, r.outs with
    | .non, [t] => M.pure (false, t)
    | _, _ => M.fail) := by rw [evX] <;> rfl
@[simp] theorem r32_evX : evX gl cl (.blt f as : CE) = (do
    let ts ← evBlt gl cl as
    lift (blt2 f ts)) := by rw [evX] <;> rfl
@[simp] theorem r33_evX : evX gl cl (.isa a ts : CE) = (do
    let x ← evX gl cl a
    M.pure (false, .bl (isa2 x.2 ts))) := by rw [evX] <;> rfl
@[simp] theorem r34_evX : evX gl cl (.mut m i as : CE) = (do
    let t0 ← mine i
    ask t0.isLst
    let ts ← evKept gl cl as
    let t ← mine i
    let r ← lift (mut2 m t ts)
    change i r.2
    M.pure (false, r.1)) := by rw [evX] <;> rfl
@[simp] theorem r35_evX : evX gl cl (.mth m o as : CE) = (do
    let x0 ← pre o (evX gl cl o)
    ask (m.on x0)
    let ts ← evKept gl cl as
    let x ← post o x0
    let t ← lift (mth2 m x ts)
    M.pure (false, t)) := by rw [evX] <;> rfl
theorem r36_evX : evX gl cl (.comp own tg it ifs elt : CE) = (do
    let src ← evIt gl cl it
    let r ← during src.1 (within own (forC (fun x => fun g =>
      (do
        tgt tg x
        let k ← evIfs gl cl ifs
        if k then do
          let y ← kept elt (evX gl cl elt)
          clearOwn own
          M.pure [y]
        else do
          clearOwn own
          M.pure [] : M (List T)) g) src.2))
    ask (decide (r.length ≤ lim))
    M.pure (true, .lst r)) := by rw [evX] <;> rfl
@[simp] theorem r37_evX : evX gl cl (.conv f it : CE) = (do
    let r ← evIt gl cl it
    lift (conv2 f r.2)) := by rw [evX] <;> rfl
@[simp] theorem r38_evL : evL gl cl ([] : List CE) = (M.pure []) := by rw [evL] <;> rfl
@[simp] theorem r39_evL : evL gl cl (.star e :: r : List CE) = (do
    let x ← evX gl cl e
    let xs ← lift x.2.items
    let ys ← evL gl cl r
    M.pure (xs ++ ys)) := by rw [evL] <;> rfl
@[simp] theorem r40_evKept : evKept gl cl ([] : List CE) = (M.pure []) := by rw [evKept] <;> rfl
@[simp] theorem r41_evKept : evKept gl cl (e :: r : List CE) = (do
    let x ← kept e (evX gl cl e)
    let xs ← evKept gl cl r
    M.pure (x :: xs)) := by rw [evKept] <;> rfl
@[simp] theorem r42_evIt : evIt gl cl (.rng as : CI) = (do
    let ts ← evKept gl cl as
    let xs ← lift (rngOf ts)
    M.pure (none, xs)) := by rw [evIt] <;> rfl
@[simp] theorem r43_evIt : evIt gl cl (.enum a : CI) = (do
    let x ← pre a (evX gl cl a)
    ask (!isT x)
    let xs ← lift x.items
    M.pure (slotIt a, enumOf xs)) := by rw [evIt] <;> rfl
@[simp] theorem r44_evIt : evIt gl cl (.zip as : CI) = (do
    let ts ← evKept gl cl as
    match ts with
    | [.lst xs, .lst ys] => M.pure (none, zipOf xs ys)
    | [.tup xs, .tup ys] => M.pure (none, zipOf xs ys)
    | _ => M.fail) := by rw [evIt] <;> rfl
@[simp] theorem r45_evIt : evIt gl cl (.seq a : CI) = (do
    let x ← pre a (evX gl cl a)
    let xs ← lift x.items
    M.pure (slotIt a, xs)) := by rw [evIt] <;> rfl
@[simp] theorem r46_evNews : evNews gl cl ([] : List CE) = (M.pure []) := by rw [evNews] <;> rfl
@[simp] theorem r47_evNews : evNews gl cl (e :: r : List CE) = (do
    let x ← newOr e (evX gl cl e)
    let xs ← evNews gl cl r
    M.pure (x :: xs)) := by rw [evNews] <;> rfl
@[simp] theorem r48_evS : evS gl cl (.set i e : CS) = (do
    let r ← moved e (evX gl cl e)
    put i (slotOf r)
    M.pure .next) := by rw [evS] <;> rfl
@[simp] theorem r49_evS : evS gl cl (.par is es : CS) = (do
    ask (decide is.Nodup)
    let rs ← evNews gl cl es
    putAll is rs
    M.pure .next) := by rw [evS] <;> rfl
@[simp] theorem r50_evS : evS gl cl (.unp tg e : CS) = (do
    let t ← kept e (evX gl cl e)
    tgt tg t
    M.pure .next) := by rw [evS] <;> rfl
@[simp] theorem r51_evS : evS gl cl (.setIx o i e : CS) = (do
    let v ← kept e (evX gl cl e)
    let _ ← mine o
    let k ← kept i (evX gl cl i)
    let t ← mine o
    let t' ← lift (set2 t k v)
    change o t'
    M.pure .next) := by rw [evS] <;> rfl
@[simp] theorem r52_evS : evS gl cl (.setFld f e : CS) = (do
    let v ← kept e (evX gl cl e)
    let t ← mine 0
    match t with
    | .ins c fs => do
      ask (decide (fs.length < 900))
      change 0 (.ins c (fput f v fs))
      M.pure .next
    | _ => M.fail) := by rw [evS] <;> rfl
@[simp] theorem r53_evS : evS gl cl (.expr e : CS) = (do
    let _ ← evX gl cl e
    M.pure .next) := by rw [evS] <;> rfl
@[simp] theorem r54_evS : evS gl cl (.ret [] : CS) = (M.pure (.ret false .non)) := by rw [evS] <;> rfl
@[simp] theorem r55_evS : evS gl cl (.ret [e] : CS) = (do
    let r ← moved e (evX gl cl e)
    M.pure (.ret r.1 r.2)) := by rw [evS] <;> rfl
@[simp] theorem r56_evS : evS gl cl (.ite c a b : CS) = (do
    let k ← evT gl cl c
    if k then evSs gl cl a else evSs gl cl b) := by rw [evS] <;> rfl
theorem r57_evS : evS gl cl (.for tg it body : CS) = (do
    let src ← evIt gl cl it
    during src.1 (loopF (fun x => do tgt tg x; evSs gl cl body) src.2)) := by rw [evS] <;> rfl
theorem r58_evS : evS gl cl (.while c body : CS) = (loopW (evT gl cl c) (evSs gl cl body) turns) := by rw [evS] <;> rfl
@[simp] theorem r59_evS : evS gl cl (.brk : CS) = (M.pure .brk) := by rw [evS] <;> rfl
@[simp] theorem r60_evS : evS gl cl (.cont : CS) = (M.pure .cont) := by rw [evS] <;> rfl
@[simp] theorem r61_evS : evS gl cl (.pass : CS) = (M.pure .next) := by rw [evS] <;> rfl
@[simp] theorem r62_evS : evS gl cl (.dead : CS) = (M.fail) := by rw [evS] <;> rfl
@[simp] theorem r63_evSs : evSs gl cl ([] : List CS) = (M.pure .next) := by rw [evSs] <;> rfl
@[simp] theorem r64_evSs : evSs gl cl (s :: r : List CS) = (do
    let f ← evS gl cl s
    match f with
    | .next => evSs gl cl r
    | .brk => M.pure .brk
    | .cont => M.pure .cont
    | .ret o t => M.pure (.ret o t)) := by rw [evSs] <;> rfl
end
theorem loopF_run {f : T → M Fl} {xs : List T} {g : G} (I : Nat → G → Prop) (h0 : I 0 g) (step : ∀ (i : Nat) (x : T) (g : G), xs[i]? = some x → I i g → ∃ g', (f x g = some (.next, g') ∨ f x g = some (.cont, g')) ∧ I (i + 1) g') : ∃ g', loopF f xs g = some (.next, g') ∧ I xs.length g' := by
  have key : ∀ (n i : Nat) (g : G), i + n = xs.length → I i g → ∃ g', loopF f (xs.drop i) g = some (.next, g') ∧ I xs.length g' := by
    intro n
    induction n with
    | zero =>
      intro i g e h
      have e : i = xs.length := by omega
      subst e
      rw [List.drop_length]
      exact ⟨g, rfl, h⟩
    | succ n ih =>
      intro i g e h
      have hi : i < xs.length := by omega
      obtain ⟨g1, h1, h2⟩ := step i _ g (List.getElem?_eq_getElem hi) h
      obtain ⟨g2, h3, h4⟩ := ih (i + 1) g1 (by omega) h2
      rw [List.drop_eq_getElem_cons hi]
      refine ⟨g2, ?_, h4⟩
      simp only [loopF, ev_bind]
      rcases h1 with h1 | h1 <;> rw [h1] <;> exact h3
  obtain ⟨g', h1, h2⟩ := key xs.length 0 g (by omega) h0
  exact ⟨g', by rw [List.drop_zero] at h1; exact h1, h2⟩
end PV

/-! PL2: the evaluator by rewriting, lists of parts and values -/
namespace PV
section
variable {gl : String → Option T} {cl : Cl}
@[simp] theorem q_and1 (e : CE) : evAnd gl cl [e] = (do let x ← evX gl cl e; lift x.2.bl?) := by rw [evAnd] <;> rfl
@[simp] theorem q_andC (e e2 : CE) (r : List CE) : evAnd gl cl (e :: e2 :: r) = (do let x ← evX gl cl e; let b ← lift x.2.bl?; if b then evAnd gl cl (e2 :: r) else M.pure false) := by rw [evAnd] <;> simp
@[simp] theorem q_or1 (e : CE) : evOr gl cl [e] = (do let x ← evX gl cl e; lift x.2.bl?) := by rw [evOr] <;> rfl
@[simp] theorem q_orC (e e2 : CE) (r : List CE) : evOr gl cl (e :: e2 :: r) = (do let x ← evX gl cl e; let b ← lift x.2.bl?; if b then M.pure true else evOr gl cl (e2 :: r)) := by rw [evOr] <;> simp
@[simp] theorem q_tand1 (e : CE) : evTAnd gl cl [e] = (do let x ← evX gl cl e; lift x.2.truth) := by rw [evTAnd] <;> rfl
@[simp] theorem q_tandC (e e2 : CE) (r : List CE) : evTAnd gl cl (e :: e2 :: r) = (do let x ← evX gl cl e; let b ← lift x.2.truth; if b then evTAnd gl cl (e2 :: r) else M.pure false) := by rw [evTAnd] <;> simp
@[simp] theorem q_tor1 (e : CE) : evTOr gl cl [e] = (do let x ← evX gl cl e; lift x.2.truth) := by rw [evTOr] <;> rfl
@[simp] theorem q_torC (e e2 : CE) (r : List CE) : evTOr gl cl (e :: e2 :: r) = (do let x ← evX gl cl e; let b ← lift x.2.truth; if b then M.pure true else evTOr gl cl (e2 :: r)) := by rw [evTOr] <;> simp
@[simp] theorem q_blt1 (e : CE) : evBlt gl cl [e] = (do let x ← evX gl cl e; M.pure [x.2]) := by rw [evBlt] <;> rfl
@[simp] theorem q_bltC (e e2 : CE) (r : List CE) : evBlt gl cl (e :: e2 :: r) = (do let x ← kept e (evX gl cl e); let xs ← evKept gl cl (e2 :: r); M.pure (x :: xs)) := by rw [evBlt] <;> simp
@[simp] theorem q_args0 : evArgs gl cl [] = M.pure [] := by rw [evArgs] <;> rfl
@[simp] theorem q_argsC (e : CE) (r : List CE) : evArgs gl cl (e :: r) = (match e.lent with
    | some i => do
      let _ ← mine i
      let xs ← evArgs gl cl r
      M.pure (.non :: xs)
    | none => do
      let x ← kept e (evX gl cl e)
      let xs ← evArgs gl cl r
      M.pure (x :: xs)) := by rw [evArgs] <;> rfl
@[simp] theorem q_kv0 (acc : List (T × T)) : evKV gl cl [] acc = M.pure acc := by rw [evKV] <;> rfl
@[simp] theorem q_kvC (k v : CE) (r : List CE) (acc : List (T × T)) : evKV gl cl (k :: v :: r) acc = (do
    let a ← kept k (evX gl cl k)
    ask (a.keyOk false)
    let b ← kept v (evX gl cl v)
    evKV gl cl r (dput acc a b)) := by rw [evKV] <;> rfl
@[simp] theorem q_ifs0 : evIfs gl cl [] = M.pure true := by rw [evIfs] <;> rfl
@[simp] theorem q_ifs1 (e : CE) : evIfs gl cl [e] = (do let x ← evX gl cl e; lift x.2.truth) := by rw [evIfs] <;> rfl
@[simp] theorem q_part0 : evPart gl cl [] = M.pure none := by rw [evPart] <;> rfl
@[simp] theorem q_part1 (e : CE) : evPart gl cl [e] = (do let x ← evX gl cl e; let i ← lift x.2.int?; M.pure (some i)) := by rw [evPart] <;> rfl
@[simp] theorem q_evL (c : CE) (r : List CE) (h : ∀ e, c ≠ .star e) : evL gl cl (c :: r) = (do let x ← kept c (evX gl cl c); let xs ← evL gl cl r; M.pure (x :: xs)) := by
  cases c <;> first | exact absurd rfl (h _) | (rw [evL] <;> simp)
@[simp] theorem q_evT (c : CE) : evT gl cl c = (do let x ← evX gl cl c; lift x.2.truth) := rfl
end
@[simp] theorem v_eqI (a b : Int) : cmp2 .eq (.int a) (.int b) = some (decide (a = b)) := by
  show (if true && true then some (a == b) else none) = _
  simp [Bool.beq_eq_decide_eq]
@[simp] theorem v_neI (a b : Int) : cmp2 .ne (.int a) (.int b) = some (!decide (a = b)) := by
  show (if true && true then some (!(a == b)) else none) = _
  simp [Bool.beq_eq_decide_eq]
@[simp] theorem v_lt (a b : Int) : cmp2 .lt (.int a) (.int b) = some (decide (a < b)) := rfl
@[simp] theorem v_le (a b : Int) : cmp2 .le (.int a) (.int b) = some (decide (a ≤ b)) := rfl
@[simp] theorem v_gt (a b : Int) : cmp2 .gt (.int a) (.int b) = some (decide (b < a)) := rfl
@[simp] theorem v_ge (a b : Int) : cmp2 .ge (.int a) (.int b) = some (decide (b ≤ a)) := rfl
@[simp] theorem v_add (a b : Int) : bin2 .add (.int a) (.int b) = some (false, .int (a + b)) := rfl
@[simp] theorem v_sub (a b : Int) : bin2 .sub (.int a) (.int b) = some (false, .int (a - b)) := rfl
@[simp] theorem v_mul (a b : Int) : bin2 .mul (.int a) (.int b) = if mulOk a b then some (false, .int (a * b)) else none := rfl
@[simp] theorem v_mod (a b : Int) : bin2 .mod (.int a) (.int b) = if decide (0 < b) then some (false, .int (a % b)) else none := rfl
@[simp] theorem v_fdiv (a b : Int) : bin2 .fdiv (.int a) (.int b) = if divOk b then some (false, .int (a / b)) else none := rfl
@[simp] theorem v_truthB (b : Bool) : T.truth (.bl b) = some b := rfl
@[simp] theorem v_truthI (i : Int) : T.truth (.int i) = some (i != 0) := rfl
@[simp] theorem v_bl (b : Bool) : T.bl? (.bl b) = some b := rfl
@[simp] theorem v_int (i : Int) : T.int? (.int i) = some i := rfl
@[simp] theorem v_lenT (xs : List T) : blt2 .len [.tup xs] = some (false, .int xs.length) := rfl
@[simp] theorem v_lenL (xs : List T) : blt2 .len [.lst xs] = some (false, .int xs.length) := rfl
@[simp] theorem v_lenF (xs : List T) : blt2 .len [.frl xs] = some (false, .int xs.length) := rfl
@[simp] theorem v_intI (i : Int) : blt2 .int [.int i] = some (false, .int i) := rfl
@[simp] theorem v_ixT (xs : List T) (i : Int) : ix2 (.tup xs) (.int i) = getAt xs i := rfl
@[simp] theorem v_ixL (xs : List T) (i : Int) : ix2 (.lst xs) (.int i) = getAt xs i := rfl
@[simp] theorem v_ixD (tk : Bool) (kvs : List (T × T)) (k : T) : ix2 (.dct tk kvs) k = if k.keyOk tk then dget kvs k else none := rfl
@[simp] theorem v_setD (tk : Bool) (kvs : List (T × T)) (k v : T) : set2 (.dct tk kvs) k v = if k.keyOk tk && decide (kvs.length < lim) then some (.dct tk (dput kvs k v)) else none := by cases k <;> rfl
@[simp] theorem v_setL (xs : List T) (i : Int) (v : T) : set2 (.lst xs) (.int i) v = (place xs.length i).bind fun j => some (T.lst (xs.set j v)) := by
  show (match place xs.length i with | some j => some (T.lst (xs.set j v)) | none => none) = _
  cases place xs.length i <;> rfl
@[simp] theorem v_powI (a b : Int) : bin2 .pow (.int a) (.int b) = if powOk a b then some (false, .int (a ^ b.toNat)) else none := rfl
@[simp] theorem v_append (xs : List T) (y : T) : mut2 .append (.lst xs) [y] = if xs.length < lim then some (.non, .lst (xs ++ [y])) else none := rfl
@[simp] theorem v_popAt (xs : List T) (i : Int) : mut2 .popAt (.lst xs) [.int i] = if ltZ i (2 ^ 62) then (place xs.length i).bind fun j => (xs[j]?).map fun y => (y, .lst (xs.eraseIdx j)) else none := rfl
@[simp] theorem v_insert (xs : List T) (i : Int) (y : T) : mut2 .insert (.lst xs) [.int i, y] = if decide (0 ≤ i) && decide (i ≤ xs.length) && decide (xs.length < lim) then some (.non, .lst (xs.take i.toNat ++ y :: xs.drop i.toNat)) else none := rfl
@[simp] theorem v_isL (xs : List T) : T.isLst (.lst xs) = true := rfl
theorem erase_map : ∀ (l : List Int) (j : Nat), (l.map T.int).eraseIdx j = (l.eraseIdx j).map T.int
  | [], _ => rfl
  | _ :: _, 0 => rfl
  | x :: l, j + 1 => by
    show T.int x :: (l.map T.int).eraseIdx j = T.int x :: (l.eraseIdx j).map T.int
    rw [erase_map l j]
theorem getAt_nat {xs : List T} {i : Int} {j : Nat} {t : T} (hi : i = (j : Int)) (h : xs[j]? = some t) : getAt xs i = some t := by
  subst hi
  have hj := (List.getElem?_eq_some_iff.mp h).1
  unfold getAt place
  rw [if_pos (by omega), if_pos (by omega)]
  simpa using h
theorem mulOk_l {a b : Int} (h1 : -(2 ^ 64) < a) (h2 : a < 2 ^ 64) : mulOk a b = true := by
  unfold mulOk small
  rw [lt64.mpr ⟨h1, h2⟩]
  simp
theorem mulOk_r {a b : Int} (h1 : -(2 ^ 64) < b) (h2 : b < 2 ^ 64) : mulOk a b = true := by
  unfold mulOk small
  rw [lt64.mpr ⟨h1, h2⟩]
  simp
end PV

/-! PL3: the pen -/
namespace PV
def p_pen : Fd := ⟨[false], 3, [(.set 1 (.int 0)), (.for (.at 2) (.seq (.var 0)) [(.set 1 (.bin .mod (.blt .int [(.bin .add (.bin .mul (.var 1) (.int 47)) (.var 2))]) (.int 1000000007)))]), (.ret [(.dct [(.str "cells"), (.blt .list [(.var 0)]), (.str "at"), (.int 0), (.str "digits"), (.int 0), (.str "count"), (.int 0), (.str "fold"), (.var 1)])])]⟩
def p_draw : Fd := ⟨[true, false], 5, [(.setIx 0 (.str "count") (.bin .add (.ix (.var 0) (.str "count")) (.int 1))), (.ite (.tand [(.cmp .eq (.ix (.var 0) (.str "digits")) (.int 0)), (.cmp .lt (.ix (.var 0) (.str "at")) (.blt .len [(.ix (.var 0) (.str "cells"))]))]) [(.set 3 (.ix (.ix (.var 0) (.str "cells")) (.ix (.var 0) (.str "at")))), (.setIx 0 (.str "at") (.bin .add (.ix (.var 0) (.str "at")) (.int 1))), (.ite (.cmp .ge (.var 3) (.bin .pow (.int 10) (.int 18))) [(.setIx 0 (.str "digits") (.bin .sub (.var 3) (.bin .pow (.int 10) (.int 18))))] [(.setIx 0 (.str "fold") (.bin .mod (.blt .int [(.bin .add (.bin .mul (.ix (.var 0) (.str "fold")) (.int 69069)) (.var 3))]) (.int 2147483587)))])] []), (.ite (.cmp .gt (.ix (.var 0) (.str "digits")) (.int 0)) [(.set 4 (.bin .mod (.blt .int [(.ix (.var 0) (.str "digits"))]) (.var 1))), (.setIx 0 (.str "digits") (.bin .fdiv (.ix (.var 0) (.str "digits")) (.var 1))), (.ret [(.var 4)])] []), (.set 2 (.bin .mod (.blt .int [(.bin .add (.bin .add (.bin .mul (.ix (.var 0) (.str "fold")) (.int 48271)) (.bin .mul (.ix (.var 0) (.str "count")) (.int 7919))) (.int 13))]) (.int 2147483647))), (.set 2 (.bin .mod (.blt .int [(.bin .add (.bin .add (.bin .mul (.var 2) (.var 2)) (.bin .mul (.int 31) (.var 2))) (.ix (.var 0) (.str "count")))]) (.int 2147483629))), (.setIx 0 (.str "fold") (.bin .mod (.blt .int [(.bin .add (.bin .mul (.var 2) (.int 16807)) (.int 7))]) (.int 2147483647))), (.ret [(.bin .mod (.blt .int [(.bin .fdiv (.var 2) (.int 64))]) (.var 1))])]⟩
def p_pick : Fd := ⟨[true, false], 2, [(.ret [(.ix (.var 1) (.call "_law_draw" [(.bor 0), (.blt .len [(.var 1)])]))])]⟩
def p_shuffled : Fd := ⟨[true, false], 5, [(.par [3, 4] [(.blt .list [(.var 1)]), (.lst [])]), (.for (.at 2) (.rng [(.blt .len [(.var 1)])]) [(.expr (.mut .append 4 [(.mut .popAt 3 [(.call "_law_draw" [(.bor 0), (.blt .len [(.var 3)])])])]))]), (.ret [(.var 4)])]⟩
def p_drawn_order : Fd := ⟨[true, false], 2, [(.ret [(.blt .tuple [(.call "_law_shuffled" [(.bor 0), (.conv .list (.rng [(.var 1)]))])])])]⟩
def penS (ns : List Int) (p : Int × Int × Int × Int) : T := .dct false [(.str "cells", .lst (ns.map T.int)), (.str "at", .int p.1), (.str "digits", .int p.2.1), (.str "count", .int p.2.2.1), (.str "fold", .int p.2.2.2)]
def PenOk (p : Int × Int × Int × Int) : Prop := 0 ≤ p.1 ∧ 0 ≤ p.2.1 ∧ 0 ≤ p.2.2.1
theorem div_ok {m : Int} (h : 1 ≤ m) (h2 : m < 2 ^ 60) : divOk m = true := by
  unfold divOk
  have h3 : m.natAbs < 2 ^ 60 := by omega
  have h4 : m.natAbs ≠ 0 := by omega
  have : m.natAbs.log2 < 60 := (Nat.log2_lt h4).mpr h3
  simp only [Bool.and_eq_true, decide_eq_true_eq]
  omega
section
variable {gl : String → Option T} {tb : String → Option Fd} {k : Nat}
def b1 (f c : Int) : Int := (f * 48271 + c * 7919 + 13) % 2147483647
def b2 (f c : Int) : Int := (b1 f c * b1 f c + 31 * b1 f c + c) % 2147483629
set_option maxHeartbeats 4000000 in
theorem draw_dig (t : tb "_law_draw" = some p_draw) (ns : List Int) (a d c f many : Int) (hm : 1 ≤ many) (hd : 0 < d) (hm2 : many < 2 ^ 60) : evF gl tb (k+1) "_law_draw" [penS ns (a, d, c, f), .int many] = some ⟨false, .int (d % many), [penS ns (a, d / many, c + 1, f)]⟩ := by
  rw [evF_at t]
  have h1 : ¬ (d = 0) := by omega
  have h2 : divOk many = true := div_ok hm hm2
  have h3 : (0 : Int) < many := by omega
  simp [p_draw, evB, slots0, kept, pre, post, moved, getAt, place, outs, penS, mine, change, dput, dget, T.eq, T.keyOk, rd, put, slotOf, lim, hd, h1, h2, h3]
theorem m1 (f : Int) : mulOk f 48271 = true := mulOk_r (by decide) (by decide)
theorem m2 (f : Int) : mulOk f 7919 = true := mulOk_r (by decide) (by decide)
theorem m3 (f : Int) : mulOk f 69069 = true := mulOk_r (by decide) (by decide)
theorem m4 (f : Int) : mulOk 31 f = true := mulOk_l (by decide) (by decide)
theorem m5 (f : Int) : mulOk f 16807 = true := mulOk_r (by decide) (by decide)
theorem m6 (x : Int) : mulOk (x % 2147483647) (x % 2147483647) = true := mulOk_r (by omega) (by omega)
set_option maxHeartbeats 4000000 in
theorem draw_end (t : tb "_law_draw" = some p_draw) (ns : List Int) (a c f many : Int) (hm : 1 ≤ many) (ha : (ns.length : Int) ≤ a) : evF gl tb (k+1) "_law_draw" [penS ns (a, 0, c, f), .int many] = some ⟨false, .int ((b2 f (c + 1) / 64) % many), [penS ns (a, 0, c + 1, (b2 f (c + 1) * 16807 + 7) % 2147483647)]⟩ := by
  rw [evF_at t]
  have h3 : (0 : Int) < many := by omega
  have h4 : ¬ (a < (ns.length : Int)) := by omega
  have h5 : divOk 64 = true := div_ok (by decide) (by decide)
  simp [p_draw, evB, slots0, kept, pre, post, moved, getAt, place, outs, penS, mine, change, dput, dget, T.eq, T.keyOk, rd, put, slotOf, lim, h3, h4, m1, m2, m4, m5, m6, b1, b2, h5]
set_option maxHeartbeats 4000000 in
theorem draw_lo (t : tb "_law_draw" = some p_draw) (ns : List Int) (a c f many x : Int) (hm : 1 ≤ many) (ha0 : 0 ≤ a) (ha : a < (ns.length : Int)) (hx : ns[a.toNat]? = some x) (hlo : x < 10 ^ 18) : evF gl tb (k+1) "_law_draw" [penS ns (a, 0, c, f), .int many] = some ⟨false, .int ((b2 ((f * 69069 + x) % 2147483587) (c + 1) / 64) % many), [penS ns (a + 1, 0, c + 1, (b2 ((f * 69069 + x) % 2147483587) (c + 1) * 16807 + 7) % 2147483647)]⟩ := by
  rw [evF_at t]
  have h3 : (0 : Int) < many := by omega
  have h5 : divOk 64 = true := div_ok (by decide) (by decide)
  have h6 : ¬ ((1000000000000000000 : Int) ≤ x) := by omega
  have h7 : powOk 10 18 = true := by decide
  have hg : getAt (ns.map T.int) a = some (.int x) := getAt_nat (j := a.toNat) (by omega) (by rw [List.getElem?_map, hx]; rfl)
  simp [p_draw, evB, slots0, kept, pre, post, moved, outs, penS, mine, change, dput, dget, T.eq, T.keyOk, rd, put, slotOf, lim, h3, ha, hg, h6, h7, m1, m2, m3, m4, m5, m6, b1, b2, h5]
set_option maxHeartbeats 4000000 in
theorem draw_hi (t : tb "_law_draw" = some p_draw) (ns : List Int) (a c f many x : Int) (hm : 1 ≤ many) (hm2 : many < 2 ^ 60) (ha0 : 0 ≤ a) (ha : a < (ns.length : Int)) (hx : ns[a.toNat]? = some x) (hhi : 10 ^ 18 < x) : evF gl tb (k+1) "_law_draw" [penS ns (a, 0, c, f), .int many] = some ⟨false, .int ((x - 10 ^ 18) % many), [penS ns (a + 1, (x - 10 ^ 18) / many, c + 1, f)]⟩ := by
  rw [evF_at t]
  have h3 : (0 : Int) < many := by omega
  have h5 : divOk many = true := div_ok hm hm2
  have h6 : ((1000000000000000000 : Int) ≤ x) := by omega
  have h8 : (1000000000000000000 : Int) < x := by omega
  have h7 : powOk 10 18 = true := by decide
  have hg : getAt (ns.map T.int) a = some (.int x) := getAt_nat (j := a.toNat) (by omega) (by rw [List.getElem?_map, hx]; rfl)
  simp [p_draw, evB, slots0, kept, pre, post, moved, outs, penS, mine, change, dput, dget, T.eq, T.keyOk, rd, put, slotOf, lim, h3, ha, hg, h6, h7, h8, h5]
set_option maxHeartbeats 4000000 in
theorem draw_at (t : tb "_law_draw" = some p_draw) (ns : List Int) (a c f many : Int) (hm : 1 ≤ many) (ha0 : 0 ≤ a) (ha : a < (ns.length : Int)) (hx : ns[a.toNat]? = some (10 ^ 18)) : evF gl tb (k+1) "_law_draw" [penS ns (a, 0, c, f), .int many] = some ⟨false, .int ((b2 f (c + 1) / 64) % many), [penS ns (a + 1, 0, c + 1, (b2 f (c + 1) * 16807 + 7) % 2147483647)]⟩ := by
  rw [evF_at t]
  have h3 : (0 : Int) < many := by omega
  have h5 : divOk 64 = true := div_ok (by decide) (by decide)
  have h7 : powOk 10 18 = true := by decide
  have hg : getAt (ns.map T.int) a = some (.int 1000000000000000000) := getAt_nat (j := a.toNat) (by omega) (by rw [List.getElem?_map, hx]; rfl)
  simp [p_draw, evB, slots0, kept, pre, post, moved, outs, penS, mine, change, dput, dget, T.eq, T.keyOk, rd, put, slotOf, lim, h3, ha, hg, h7, m1, m2, m3, m4, m5, m6, b1, b2, h5]
/-- a draw: below many, the pen goes on -/
theorem draw_ok (t : tb "_law_draw" = some p_draw) (ns : List Int) (p : Int × Int × Int × Int) (hp : PenOk p) (many : Int) (hm : 1 ≤ many) (hm2 : many < 2 ^ 60) :
    ∃ r p', evF gl tb (k+1) "_law_draw" [penS ns p, .int many] = some ⟨false, .int r, [penS ns p']⟩ ∧ 0 ≤ r ∧ r < many ∧ PenOk p' := by
  obtain ⟨a, d, c, f⟩ := p
  obtain ⟨h1, h2, h3⟩ := hp
  simp only at h1 h2 h3
  have md : ∀ x : Int, 0 ≤ x % many ∧ x % many < many := fun x => ⟨Int.emod_nonneg _ (by omega), Int.emod_lt_of_pos _ (by omega)⟩
  by_cases hd : 0 < d
  · exact ⟨_, _, draw_dig t ns a d c f many hm hd hm2, (md _).1, (md _).2, h1, Int.ediv_nonneg h2 (by omega), by simp only; omega⟩
  · have e : d = 0 := by omega
    subst e
    by_cases ha : a < (ns.length : Int)
    · have hx : ns[a.toNat]? = some (ns[a.toNat]'(by omega)) := List.getElem?_eq_getElem _
      generalize ns[a.toNat]'(by omega) = x at hx
      by_cases hlo : x < 10 ^ 18
      · exact ⟨_, _, draw_lo t ns a c f many x hm h1 ha hx hlo, (md _).1, (md _).2, by simp only; omega, by simp, by simp only; omega⟩
      · by_cases hhi : 10 ^ 18 < x
        · exact ⟨_, _, draw_hi t ns a c f many x hm hm2 h1 ha hx hhi, (md _).1, (md _).2, by simp only; omega, Int.ediv_nonneg (by omega) (by omega), by simp only; omega⟩
        · have e : x = 10 ^ 18 := by omega
          subst e
          exact ⟨_, _, draw_at t ns a c f many hm h1 ha hx, (md _).1, (md _).2, by simp only; omega, by simp, by simp only; omega⟩
    · exact ⟨_, _, draw_end t ns a c f many hm (by omega), (md _).1, (md _).2, h1, by simp, by simp only; omega⟩
end
end PV

/-! PL4: steps; the pen at its start, picks, shuffles -/
namespace PV
section
variable {gl : String → Option T} {cl : Cl} {tb : String → Option Fd} {k : Nat}
theorem rng_nat (n : Nat) (h : n ≤ 1000000) : rngOf [.int (n : Int)] = some ((List.range n).map fun k => T.int (k : Nat)) := by
  have c : (mid (n : Int) && leZ (n : Int) 16000000) = true := by
    unfold mid
    rw [lt60.mpr (by omega), le7.mpr (by omega)]
    rfl
  show (if (mid (n : Int) && leZ (n : Int) 16000000) = true then some ((List.range (n : Int).toNat).map fun k => T.int (k : Nat)) else none) = _
  rw [if_pos c, Int.toNat_natCast]
theorem ss_next {c : CS} {cs : List CS} {g g1 : G} (h : evS gl cl c g = some (.next, g1)) : evSs gl cl (c :: cs) g = evSs gl cl cs g1 := by
  rw [evSs, bind_of h]
theorem ss_ret {c : CS} {cs : List CS} {g g1 : G} {o : Bool} {t : T} (h : evS gl cl c g = some (.ret o t, g1)) : evSs gl cl (c :: cs) g = some (.ret o t, g1) := by
  rw [evSs, bind_of h] <;> rfl
theorem evB_ret {d : Fd} {ts : List T} {g' : G} {o : Bool} {t : T} {r : List T} (h1 : ts.length = d.bor.length) (h2 : d.bor.length ≤ d.n) (h : evSs gl cl d.body (slots0 d.bor ts ++ List.replicate (d.n - d.bor.length) .no) = some (.ret o t, g')) (ho : outs d.bor g' = some r) : evB gl cl d ts = some ⟨o, t, r⟩ := by
  unfold evB
  rw [if_pos ⟨h1, h2⟩, h]
  simp only [ho]
  rfl
theorem for_run {tg : Tg} {it : CI} {body : List CS} {g g1 g2 : G} {src : Option Nat × List T} {fl : Fl} (h1 : evIt gl cl it g = some (src, g1)) (nb : ∀ j t, src.1 = some j → g1[j]? ≠ some (.bo t)) (h2 : loopF (fun x => do tgt tg x; evSs gl cl body) src.2 (lockG src.1 g1) = some (fl, g2)) : evS gl cl (.for tg it body) g = some (fl, unlockG src.1 g1 g2) := by
  rw [evS, bind_of h1]
  unfold during
  cases hs : src.1 with
  | none => rw [hs] at h2; exact h2
  | some j =>
    rw [hs] at h2
    simp only [lockG, unlockG] at h2 ⊢
    cases hj : g1[j]? with
    | none => rw [hj] at h2; simpa [hj] using h2
    | some s =>
      cases s with
      | ow t =>
        rw [hj] at h2
        simp only at h2
        simp [hj, h2]
      | bo t => exact absurd hj (nb j t hs)
      | _ => rw [hj] at h2; simpa [hj] using h2
/-- the pen at its start -/
theorem pen_ok (t : tb "_law_pen" = some p_pen) (ns : List Int) (hn : ns.length ≤ 1000000) : ∃ p, evF gl tb (k+1) "_law_pen" [.frl (ns.map T.int)] = some ⟨true, penS ns p, []⟩ ∧ PenOk p := by
  rw [evF_at t]
  obtain ⟨g', e1, f, s, rfl, hs⟩ := loopF_run (f := fun x => do tgt (.at 2) x; evSs gl (evF gl tb k) [(.set 1 (.bin .mod (.blt .int [(.bin .add (.bin .mul (.var 1) (.int 47)) (.var 2))]) (.int 1000000007)))]) (xs := ns.map T.int) (g := [.sh (.frl (ns.map T.int)), .sh (.int 0), .no])
    (fun _ g => ∃ (f : Int) (s : Slot), g = [.sh (.frl (ns.map T.int)), .sh (.int f), s] ∧ (s = .no ∨ ∃ t, s = .sh t)) ⟨0, .no, rfl, .inl rfl⟩ (by
      rintro i x g hx ⟨f, s, rfl, hs⟩
      rw [List.getElem?_map] at hx
      obtain ⟨y, _, rfl⟩ := Option.map_eq_some_iff.mp hx
      refine ⟨[.sh (.frl (ns.map T.int)), .sh (.int ((f * 47 + y) % 1000000007)), .sh (.int y)], .inl ?_, _, _, rfl, .inr ⟨_, rfl⟩⟩
      have m : mulOk f 47 = true := mulOk_r (by decide) (by decide)
      rcases hs with rfl | ⟨t, rfl⟩ <;> simp [tgt, put, moved, kept, rd, slotOf, m])
  refine ⟨(0, 0, 0, f), evB_ret (g' := [.sh (.frl (ns.map T.int)), .sh (.int f), s]) rfl (by decide) ?_ rfl, ⟨by simp, by simp, by simp⟩⟩
  show evSs gl (evF gl tb k) p_pen.body [.sh (.frl (ns.map T.int)), .no, .no] = _
  unfold p_pen
  simp only
  rw [ss_next (g1 := [.sh (.frl (ns.map T.int)), .sh (.int 0), .no]) (by simp [moved, put, slotOf])]
  rw [ss_next (g1 := [.sh (.frl (ns.map T.int)), .sh (.int f), s]) (for_run (src := (some 0, ns.map T.int)) (g1 := [.sh (.frl (ns.map T.int)), .sh (.int 0), .no]) (by simp [pre, T.items, slotIt]) (by rintro j t h; cases h; simp) e1)]
  refine ss_ret ?_
  simp [kept, moved, dput, T.keyOk, T.eq, blt2, lim, hn, penS, rd]
theorem pick_ok (t : tb "_law_draw" = some p_draw) (t2 : tb "_law_pick" = some p_pick) (ns : List Int) (p : Int × Int × Int × Int) (hp : PenOk p) (xs : List T) (hx : 1 ≤ xs.length) (hx2 : xs.length ≤ 1000000) :
    ∃ x p', evF gl tb (k+2) "_law_pick" [penS ns p, .lst xs] = some ⟨false, x, [penS ns p']⟩ ∧ x ∈ xs ∧ PenOk p' := by
  obtain ⟨r, p', e, r0, r1, hp'⟩ := draw_ok (gl := gl) (k := k) t ns p hp (xs.length : Int) (by omega) (by omega)
  obtain ⟨x, hr⟩ : ∃ x, xs[r.toNat]? = some x := ⟨_, List.getElem?_eq_getElem (by omega)⟩
  refine ⟨x, p', ?_, List.mem_of_getElem? hr, hp'⟩
  rw [evF_at t2]
  have hg := getAt_nat (i := r) (by omega) hr
  simp [p_pick, evB, slots0, kept, pre, post, moved, outs, mine, change, CE.lent, lentOf, fillArgs, backArgs, e, hg]
/-- lists that hold the same ints -/
theorem shuffle_step {l : List Int} {j : Nat} {x : Int} (h : l[j]? = some x) (acc : List Int) : (acc ++ [x] ++ l.eraseIdx j).Perm (acc ++ l) := by
  have hj := (List.getElem?_eq_some_iff.mp h).1
  have e : l = l.take j ++ x :: l.drop (j + 1) := by
    have := (List.getElem?_eq_some_iff.mp h).2
    rw [← this, ← List.drop_eq_getElem_cons hj, List.take_append_drop]
  rw [List.eraseIdx_eq_take_drop_succ, List.append_assoc]
  refine List.Perm.append_left acc ?_
  conv => rhs; rw [e]
  exact (List.perm_middle (a := x) (l₁ := l.take j) (l₂ := l.drop (j + 1))).symm
theorem shuf_step {p p' : Int × Int × Int × Int} {ns xs left found : List Int} {s : Slot} {x : T} {r y : Int} (hs : s = .no ∨ ∃ t, s = .sh t)
    (e : evF gl tb (k + 1) "_law_draw" [penS ns p, T.int left.length] = some ⟨false, .int r, [penS ns p']⟩) (hplace : place left.length r = some r.toNat) (hy : (left.map T.int)[r.toNat]? = some (.int y)) (b1 : ltZ r (2 ^ 62) = true) (b3 : found.length < 1000000) :
    (do tgt (.at 2) x; evSs gl (evF gl tb (k+1)) [(.expr (.mut .append 4 [(.mut .popAt 3 [(.call "_law_draw" [(.bor 0), (.blt .len [(.var 3)])])])]))] : M Fl) [.bo (penS ns p), .sh (.lst (xs.map T.int)), s, .ow (.lst (left.map T.int)), .ow (.lst (found.map T.int))] =
      some (.next, [.bo (penS ns p'), .sh (.lst (xs.map T.int)), .sh x, .ow (.lst ((left.eraseIdx r.toNat).map T.int)), .ow (.lst ((found ++ [y]).map T.int))]) := by
  have he : (left.map T.int).eraseIdx r.toNat = (left.eraseIdx r.toNat).map T.int := erase_map _ _
  have hz : left[r.toNat]? = some y := by
    rw [List.getElem?_map] at hy
    obtain ⟨z, h1, h2⟩ := Option.map_eq_some_iff.mp hy
    cases h2
    exact h1
  rcases hs with rfl | ⟨t, rfl⟩ <;> simp [tgt, put, kept, mine, change, CE.lent, lentOf, fillArgs, backArgs, e, hplace, hz, he, b1, b3, lim]
end
theorem it_rl {gl : String → Option T} {cl : Cl} {i : Nat} {xs : List T} {g : G} (h : peek i g = some (.lst xs, g)) (hx : xs.length ≤ 1000000) : evIt gl cl (.rng [.blt .len [.var i]]) g = some ((none, (List.range xs.length).map fun j => T.int (j : Nat)), g) := by
  have e1 : evX gl cl (.blt .len [.var i]) g = some ((false, .int xs.length), g) := by
    rw [evX, q_blt1, evX]
    rw [bind_of (bind_of (bind_of h))]
    rfl
  rw [evIt, evKept, evKept]
  have e2 : (kept (.blt .len [.var i]) (evX gl cl (.blt .len [.var i]))) g = some (.int xs.length, g) := by
    show (do let r ← evX gl cl (.blt .len [.var i]); M.pure r.2 : M T) g = _
    rw [bind_of e1]; rfl
  have e3 : (do let x ← kept (.blt .len [.var i]) (evX gl cl (.blt .len [.var i])); let xs ← (M.pure [] : M (List T)); M.pure (x :: xs) : M (List T)) g = some ([.int xs.length], g) := by
    rw [bind_of e2]; rfl
  rw [bind_of e3, rng_nat _ hx]
  rfl
end PV

/-! PL5: shuffles -/
namespace PV
section
variable {gl : String → Option T} {cl : Cl} {tb : String → Option Fd} {k : Nat}
theorem shuffled_ok (t : tb "_law_draw" = some p_draw) (t2 : tb "_law_shuffled" = some p_shuffled) (ns : List Int) (p : Int × Int × Int × Int) (hp : PenOk p) (xs : List Int) (hx : xs.length ≤ 100000) :
    ∃ (ys : List Int) (p' : Int × Int × Int × Int), evF gl tb (k+2) "_law_shuffled" [penS ns p, .lst (xs.map T.int)] = some ⟨true, .lst (ys.map T.int), [penS ns p']⟩ ∧ ys.Perm xs ∧ PenOk p' := by
  rw [evF_at t2]
  obtain ⟨g', e1, p', s, left, found, rfl, hp', hs, hperm, hlen⟩ := loopF_run (f := fun x => do tgt (.at 2) x; evSs gl (evF gl tb (k+1)) [(.expr (.mut .append 4 [(.mut .popAt 3 [(.call "_law_draw" [(.bor 0), (.blt .len [(.var 3)])])])]))]) (xs := (List.range xs.length).map fun j => T.int (j : Nat)) (g := [.bo (penS ns p), .sh (.lst (xs.map T.int)), .no, .ow (.lst (xs.map T.int)), .ow (.lst [])])
    (fun i g => ∃ (p : Int × Int × Int × Int) (s : Slot) (left found : List Int), g = [.bo (penS ns p), .sh (.lst (xs.map T.int)), s, .ow (.lst (left.map T.int)), .ow (.lst (found.map T.int))] ∧ PenOk p ∧ (s = .no ∨ ∃ t, s = .sh t) ∧ (found ++ left).Perm xs ∧ left.length + i = xs.length) ⟨p, .no, xs, [], rfl, hp, .inl rfl, .refl _, by simp⟩ (by
      rintro i x g hi ⟨p, s, left, found, rfl, hp, hs, hperm, hlen⟩
      have hil : i < xs.length := by
        have := (List.getElem?_eq_some_iff.mp hi).1
        simpa using this
      obtain ⟨r, p', e, r0, r1, hp'⟩ := draw_ok (gl := gl) (k := k) t ns p hp (left.length : Int) (by omega) (by omega)
      obtain ⟨y, hr⟩ : ∃ y, left[r.toNat]? = some y := ⟨_, List.getElem?_eq_getElem (by omega)⟩
      have hy : (left.map T.int)[r.toNat]? = some (.int y) := by rw [List.getElem?_map, hr]; rfl
      have hl : found.length + left.length = xs.length := by simpa using hperm.length_eq
      refine ⟨[.bo (penS ns p'), .sh (.lst (xs.map T.int)), .sh x, .ow (.lst ((left.eraseIdx r.toNat).map T.int)), .ow (.lst ((found ++ [y]).map T.int))], .inl ?_, p', .sh x, _, _, rfl, hp', .inr ⟨_, rfl⟩, (shuffle_step hr found).trans hperm, ?_⟩
      · have hplace : place left.length r = some r.toNat := by
          unfold place
          rw [if_pos r0, if_pos r1]
        have b1 : ltZ r (2 ^ 62) = true := lt62.mpr (by omega)
        have b3 : found.length < 1000000 := by omega
        exact shuf_step hs e hplace hy b1 b3
      · rw [List.length_eraseIdx_of_lt (by omega)]; omega)
  have hleft : left = [] := List.length_eq_zero_iff.mp (by simpa using hlen)
  subst hleft
  refine ⟨found, p', evB_ret (g' := [.bo (penS ns p'), .sh (.lst (xs.map T.int)), s, .ow (.lst ([].map T.int)), .no]) rfl (by decide) ?_ rfl, by simpa using hperm, hp'⟩
  show evSs gl (evF gl tb (k+1)) p_shuffled.body [.bo (penS ns p), .sh (.lst (xs.map T.int)), .no, .no, .no] = _
  unfold p_shuffled
  simp only
  have hx' : xs.length ≤ 1000000 := by omega
  rw [ss_next (g1 := [.bo (penS ns p), .sh (.lst (xs.map T.int)), .no, .ow (.lst (xs.map T.int)), .ow (.lst [])]) (by simp [newOr, put, slotOf, putAll, blt2, lim, hx'])]
  rw [ss_next (for_run (src := (none, (List.range xs.length).map fun j => T.int (j : Nat))) (g1 := [.bo (penS ns p), .sh (.lst (xs.map T.int)), .no, .ow (.lst (xs.map T.int)), .ow (.lst [])]) (by
    have h := it_rl (gl := gl) (cl := evF gl tb (k+1)) (i := 1) (xs := xs.map T.int) (g := [.bo (penS ns p), .sh (.lst (xs.map T.int)), .no, .ow (.lst (xs.map T.int)), .ow (.lst [])]) rfl (by rw [List.length_map]; exact hx')
    rw [List.length_map] at h
    exact h) (by rintro j t h; cases h) e1)]
  refine ss_ret ?_
  simp [moved, unlockG]
end
end PV

/-! PL6: comprehensions on the plain side; drawn orders; _law_is -/
namespace PV
def p_is : Fd := ⟨[false, false], 3, [(.ite (.isa (.var 1) [.tuple]) [(.ite (.tor [(.not (.isa (.var 0) [.tuple])), (.cmp .ne (.blt .len [(.var 0)]) (.blt .len [(.var 1)]))]) [(.ret [(.bl false)])] []), (.ret [(.cmp .eq (.comp [2] (.at 2) (.rng [(.blt .len [(.var 1)])]) [(.not (.call "_law_is" [(.ix (.var 0) (.var 2)), (.ix (.var 1) (.var 2))]))] (.var 2)) (.lst []))])] []), (.ite (.isn (.var 1) false) [(.ret [(.isn (.var 0) false)])] []), (.ite (.isb (.var 1) true false) [(.ret [(.isb (.var 0) true false)])] []), (.ite (.isb (.var 1) false false) [(.ret [(.isb (.var 0) false false)])] []), (.ite (.isa (.var 1) [.str]) [(.ret [(.and [(.isa (.var 0) [.str]), (.cmp .eq (.var 0) (.var 1))])])] []), (.ret [(.and [(.isa (.var 0) [.int]), (.not (.isa (.var 0) [.bool])), (.cmp .eq (.var 0) (.var 1))])])]⟩
section
variable {gl : String → Option T} {cl : Cl} {tb : String → Option Fd} {k : Nat}
theorem comp_run {own : List Nat} {tg : Tg} {it : CI} {ic : List CE} {ec : CE} {g g1 g2 : G} {src : Option Nat × List T} {r : List T} (h1 : evIt gl cl it g = some (src, g1)) (nb : ∀ j t, src.1 = some j → g1[j]? ≠ some (.bo t)) (of : ownFree (lockG src.1 g1) own = true) (h2 : forC (stepC gl cl own tg ic ec) src.2 (wipeOwn (lockG src.1 g1) own) = some (r, g2)) (hl : r.length ≤ lim) :
    evX gl cl (.comp own tg it ic ec) g = some ((true, .lst r), unlockG src.1 g1 (restore (lockG src.1 g1) g2 own)) := by
  rw [evX, bind_of h1]
  have hw : ∀ g0 : G, ownFree g0 own = true → forC (stepC gl cl own tg ic ec) src.2 (wipeOwn g0 own) = some (r, g2) → within own (forC (stepC gl cl own tg ic ec) src.2) g0 = some (r, restore g0 g2 own) := fun g0 a b => by
    unfold within
    rw [if_pos a, b]
  have hd : during src.1 (within own (forC (stepC gl cl own tg ic ec) src.2)) g1 = some (r, unlockG src.1 g1 (restore (lockG src.1 g1) g2 own)) := by
    have w := hw _ of h2
    unfold during
    cases hs : src.1 with
    | none => rw [hs] at w; exact w
    | some j =>
      rw [hs] at w
      simp only [lockG, unlockG] at w ⊢
      cases hj : g1[j]? with
      | none => rw [hj] at w; simpa [hj] using w
      | some s =>
        cases s with
        | ow t => rw [hj] at w; simp only at w; simp [hj, w]
        | bo t => exact absurd hj (nb j t hs)
        | _ => rw [hj] at w; simpa [hj] using w
  refine (bind_of (g' := unlockG src.1 g1 (restore (lockG src.1 g1) g2 own)) (a := r) hd).trans ?_
  have ha : ask (decide (r.length ≤ lim)) (unlockG src.1 g1 (restore (lockG src.1 g1) g2 own)) = some ((), unlockG src.1 g1 (restore (lockG src.1 g1) g2 own)) := by
    rw [decide_eq_true hl]; rfl
  rw [bind_of ha]
  rfl
/-- a call with one lent slot and one value -/
theorem call_bv {gl : String → Option T} {cl : Cl} {f : String} {i : Nat} {c : CE} {g : G} {t u t' v : T} {o : Bool} (h0 : g[i]? = some (.bo t)) (k1 : c.lent = none) (k2 : kept c (evX gl cl c) g = some (u, g)) (e : cl f [t, u] = some ⟨o, v, [t']⟩) :
    evX gl cl (.call f [.bor i, c]) g = some ((o, v), g.set i (.bo t')) := by
  have m : mine i g = some (t, g) := by unfold mine; rw [h0]
  have ch : change i t' g = some ((), g.set i (.bo t')) := by unfold change; rw [h0]
  have l1 : lentOf [.bor i, c] = [i] := by
    show (match CE.lent (.bor i) with | some j => j :: lentOf [c] | none => lentOf [c]) = _
    show i :: lentOf [c] = _
    show i :: (match c.lent with | some j => j :: lentOf [] | none => lentOf []) = _
    rw [k1]; rfl
  rw [evX, l1]
  have a0 : ask (decide ([i] : List Nat).Nodup) g = some ((), g) := by
    rw [decide_eq_true (by simp)]; rfl
  rw [bind_of a0]
  have a1 : evArgs gl cl [.bor i, c] g = some ([.non, u], g) := by
    rw [q_argsC]
    show (do let _ ← mine i; let xs ← evArgs gl cl [c]; M.pure (T.non :: xs) : M (List T)) g = _
    rw [bind_of m, q_argsC, k1]
    have a2 : (do let x ← kept c (evX gl cl c); let xs ← evArgs gl cl []; M.pure (x :: xs) : M (List T)) g = some ([u], g) := by
      rw [bind_of k2, q_args0]; rfl
    show (do let xs ← (do let x ← kept c (evX gl cl c); let xs ← evArgs gl cl []; M.pure (x :: xs) : M (List T)); M.pure (T.non :: xs) : M (List T)) g = _
    rw [bind_of a2]; rfl
  rw [bind_of a1]
  have a3 : fillArgs [.bor i, c] [.non, u] g = some ([t, u], g) := by
    have a4 : fillArgs [c] [u] g = some ([u], g) := by
      rw [fillArgs, k1]; rfl
    rw [fillArgs]
    show (do let w ← mine i; let r ← fillArgs [c] [u]; M.pure (w :: r) : M (List T)) g = _
    rw [bind_of m, bind_of a4]; rfl
  rw [bind_of a3]
  have a5 : (lift (cl f [t, u]) : M Ans) g = some (⟨o, v, [t']⟩, g) := by rw [e]; rfl
  rw [bind_of a5]
  have a6 : backArgs [i] [t'] g = some ((), g.set i (.bo t')) := by
    rw [backArgs, bind_of ch, backArgs]; rfl
  rw [bind_of a6]
  rfl
/-- the same state behind every turn -/
theorem forC_same {f : T → M (List T)} {g : G} : ∀ {xs : List T} {r : T → List T}, (∀ x ∈ xs, f x g = some (r x, g)) → forC f xs g = some ((xs.map r).flatten, g)
  | [], r, _ => rfl
  | x :: xs, r, h => by
    simp only [forC, bind_of (h x List.mem_cons_self), bind_of (forC_same fun y hy => h y (List.mem_cons_of_mem _ hy))]
    rfl
theorem cv_rng {i n : Nat} {g : G} (h : g[i]? = some (.sh (.int (n : Int)))) (hn : n ≤ 1000000) : evX gl cl (.conv .list (.rng [.var i])) g = some ((true, .lst ((List.range n).map fun j => T.int (j : Nat))), g) := by
  have e0 : rd i g = some (.int (n : Int), g) := by unfold rd; rw [h]
  have e1 : evIt gl cl (.rng [.var i]) g = some ((none, (List.range n).map fun j => T.int (j : Nat)), g) := by
    rw [evIt, evKept, evKept]
    have e3 : (do let x ← kept (.var i) (evX gl cl (.var i)); let xs ← (M.pure [] : M (List T)); M.pure (x :: xs) : M (List T)) g = some ([.int (n : Int)], g) := by
      rw [kept_var, bind_of e0]; rfl
    rw [bind_of e3, rng_nat _ hn]
    rfl
  rw [evX, bind_of e1]
  have hl : ((List.range n).map fun j => T.int (j : Nat)).length ≤ lim := by rw [List.length_map, List.length_range]; exact hn
  show (lift (if _ then _ else _) : M (Bool × T)) g = _
  rw [if_pos hl]
  rfl
theorem drawn_ok (t : tb "_law_draw" = some p_draw) (t2 : tb "_law_shuffled" = some p_shuffled) (t3 : tb "_law_drawn_order" = some p_drawn_order) (ns : List Int) (p : Int × Int × Int × Int) (hp : PenOk p) (n : Nat) (hn : n ≤ 10000) :
    ∃ (ys : List Int) (p' : Int × Int × Int × Int), evF gl tb (k+3) "_law_drawn_order" [penS ns p, .int (n : Int)] = some ⟨false, .tup (ys.map T.int), [penS ns p']⟩ ∧ ys.Perm ((List.range n).map fun j => ((j : Nat) : Int)) ∧ PenOk p' := by
  obtain ⟨ys, p', e, hp1, hp2⟩ := shuffled_ok (gl := gl) (k := k) t t2 ns p hp ((List.range n).map fun j => ((j : Nat) : Int)) (by simp; omega)
  refine ⟨ys, p', ?_, hp1, hp2⟩
  have hm : (List.range n).map (fun j => T.int (j : Nat)) = ((List.range n).map fun j => ((j : Nat) : Int)).map T.int := by rw [List.map_map]; rfl
  rw [evF_at t3]
  have e1 : evX gl (evF gl tb (k+2)) (.conv .list (.rng [.var 1])) [.bo (penS ns p), .sh (.int (n : Int))] = some ((true, .lst (((List.range n).map fun j => ((j : Nat) : Int)).map T.int)), [.bo (penS ns p), .sh (.int (n : Int))]) := by
    rw [cv_rng (n := n) rfl (by omega), hm]
  have e2 : evX gl (evF gl tb (k+2)) (.call "_law_shuffled" [(.bor 0), (.conv .list (.rng [(.var 1)]))]) [.bo (penS ns p), .sh (.int (n : Int))] = some ((true, .lst (ys.map T.int)), [.bo (penS ns p'), .sh (.int (n : Int))]) := by
    generalize hc : (CE.conv .list (.rng [.var 1])) = c at e1
    have k1 : c.lent = none := by rw [← hc]; rfl
    have k2 : kept c (evX gl (evF gl tb (k+2)) c) [.bo (penS ns p), .sh (.int (n : Int))] = some (.lst (((List.range n).map fun j => ((j : Nat) : Int)).map T.int), [.bo (penS ns p), .sh (.int (n : Int))]) := by
      rw [← hc] at e1 ⊢
      show (do let r ← evX gl (evF gl tb (k+2)) (.conv .list (.rng [.var 1])); M.pure r.2 : M T) _ = _
      rw [bind_of e1]; rfl
    exact call_bv (g := [.bo (penS ns p), .sh (.int (n : Int))]) rfl k1 k2 e
  have hl : ys.length ≤ 1000000 := by
    have := hp1.length_eq
    simp at this
    omega
  generalize hc : (CE.call "_law_shuffled" [(.bor 0), (.conv .list (.rng [(.var 1)]))]) = c at e2
  have e3 : evX gl (evF gl tb (k+2)) (.blt .tuple [c]) [.bo (penS ns p), .sh (.int (n : Int))] = some ((false, .tup (ys.map T.int)), [.bo (penS ns p'), .sh (.int (n : Int))]) := by
    clear hc e1
    have hl2 : (ys.map T.int).length ≤ lim := by rw [List.length_map]; exact hl
    rw [evX, q_blt1]
    have e4 : (do let x ← evX gl (evF gl tb (k+2)) c; M.pure [x.2] : M (List T)) [.bo (penS ns p), .sh (.int (n : Int))] = some ([.lst (ys.map T.int)], [.bo (penS ns p'), .sh (.int (n : Int))]) := by
      rw [bind_of e2]; rfl
    rw [bind_of e4]
    show (lift (if _ then _ else _) : M (Bool × T)) _ = _
    rw [if_pos hl2]
    rfl
  refine evB_ret (g' := [.bo (penS ns p'), .sh (.int (n : Int))]) rfl (by decide) ?_ rfl
  show evSs gl (evF gl tb (k+2)) p_drawn_order.body [.bo (penS ns p), .sh (.int (n : Int))] = _
  unfold p_drawn_order
  simp only
  rw [hc]
  refine ss_ret ?_
  rw [evS]
  have e5 : moved (.blt .tuple [c]) (evX gl (evF gl tb (k+2)) (.blt .tuple [c])) [.bo (penS ns p), .sh (.int (n : Int))] = some ((false, .tup (ys.map T.int)), [.bo (penS ns p'), .sh (.int (n : Int))]) := e3
  rw [bind_of e5]
  rfl
theorem is_int (t : tb "_law_is" = some p_is) (a : Int) : evF gl tb (k+1) "_law_is" [.int a, .int a] = some ⟨false, .bl true, []⟩ := by
  rw [evF_at t]
  simp [p_is, evB, slots0, kept, moved, outs, isa2, Ty.of, T.isnV, T.isbV, rd]
end
end PV

/-! PL7: _law_is on rows -/
namespace PV
section
variable {gl : String → Option T} {cl : Cl} {tb : String → Option Fd} {k : Nat}
theorem it_rn {c : CE} {n : Nat} {g g1 : G} (e2 : kept c (evX gl cl c) g = some (.int (n : Int), g1)) (hx : n ≤ 1000000) : evIt gl cl (.rng [c]) g = some ((none, (List.range n).map fun j => T.int (j : Nat)), g1) := by
  rw [evIt, evKept, evKept]
  have e3 : (do let x ← kept c (evX gl cl c); let xs ← (M.pure [] : M (List T)); M.pure (x :: xs) : M (List T)) g = some ([.int (n : Int)], g1) := by
    rw [bind_of e2]; rfl
  rw [bind_of e3, rng_nat _ hx]
  rfl
theorem is_turn {xs ys : List T} {j : Nat} {x y : T} (hx : xs[j]? = some x) (hy : ys[j]? = some y) (h : cl "_law_is" [x, y] = some ⟨false, .bl true, []⟩) :
    stepC gl cl [2] (.at 2) [(.not (.call "_law_is" [(.ix (.var 0) (.var 2)), (.ix (.var 1) (.var 2))]))] (.var 2) (.int (j : Nat)) [.sh (.tup xs), .sh (.tup ys), .no] = some ([], [.sh (.tup xs), .sh (.tup ys), .no]) := by
  have hx' := getAt_nat (i := (j : Int)) rfl hx
  have hy' := getAt_nat (i := (j : Int)) rfl hy
  unfold stepC
  simp [tgt, put, kept, pre, post, rd, hx', hy', CE.lent, lentOf, fillArgs, backArgs, h, clearOwn]
theorem is_tup (t : tb "_law_is" = some p_is) {xs ys : List T} (hl : xs.length = ys.length) (hn : ys.length ≤ 1000000) (h : ∀ (j : Nat) (x y : T), xs[j]? = some x → ys[j]? = some y → evF gl tb k "_law_is" [x, y] = some ⟨false, .bl true, []⟩) : evF gl tb (k+1) "_law_is" [.tup xs, .tup ys] = some ⟨false, .bl true, []⟩ := by
  rw [evF_at t]
  have e1 : forC (stepC gl (evF gl tb k) [2] (.at 2) [(.not (.call "_law_is" [(.ix (.var 0) (.var 2)), (.ix (.var 1) (.var 2))]))] (.var 2)) ((List.range ys.length).map fun j => T.int (j : Nat)) [.sh (.tup xs), .sh (.tup ys), .no] = some ((((List.range ys.length).map fun j => T.int (j : Nat)).map fun _ => ([] : List T)).flatten, [.sh (.tup xs), .sh (.tup ys), .no]) := by
    refine forC_same fun x hx => ?_
    obtain ⟨j, hj, rfl⟩ := List.mem_map.mp hx
    have hj := List.mem_range.mp hj
    exact is_turn (List.getElem?_eq_getElem (by omega)) (List.getElem?_eq_getElem hj) (h j _ _ (List.getElem?_eq_getElem (by omega)) (List.getElem?_eq_getElem hj))
  have e0 : (((List.range ys.length).map fun j => T.int (j : Nat)).map fun _ => ([] : List T)).flatten = [] := by
    apply List.flatten_eq_nil_iff.mpr
    intro l hl
    obtain ⟨_, _, rfl⟩ := List.mem_map.mp hl
    rfl
  rw [e0] at e1
  have e2 : kept (.blt .len [.var 1]) (evX gl (evF gl tb k) (.blt .len [.var 1])) [.sh (.tup xs), .sh (.tup ys), .no] = some (.int (ys.length : Nat), [.sh (.tup xs), .sh (.tup ys), .no]) := by
    simp [kept]
  have e3 := comp_run (tg := .at 2) (own := [2]) (it_rn e2 hn) (by rintro j t h; cases h) (by rfl) e1 (Nat.zero_le _)
  generalize hc : (CE.comp [2] (.at 2) (.rng [(.blt .len [(.var 1)])]) [(.not (.call "_law_is" [(.ix (.var 0) (.var 2)), (.ix (.var 1) (.var 2))]))] (.var 2)) = c at e3
  have e4 : evX gl (evF gl tb k) (.cmp .eq c (.lst [])) [.sh (.tup xs), .sh (.tup ys), .no] = some ((false, .bl true), [.sh (.tup xs), .sh (.tup ys), .no]) := by
    have k2 : kept c (evX gl (evF gl tb k) c) [.sh (.tup xs), .sh (.tup ys), .no] = some (.lst [], [.sh (.tup xs), .sh (.tup ys), .no]) := by
      rw [← hc] at e3 ⊢
      show (do let r ← evX gl (evF gl tb k) _; M.pure r.2 : M T) _ = _
      rw [bind_of e3]; rfl
    rw [evX, bind_of k2]
    rfl
  refine evB_ret (g' := [.sh (.tup xs), .sh (.tup ys), .no]) rfl (by decide) ?_ rfl
  show evSs gl (evF gl tb k) p_is.body [.sh (.tup xs), .sh (.tup ys), .no] = _
  unfold p_is
  simp only
  rw [hc]
  refine ss_ret ?_
  have t1 : evT gl (evF gl tb k) (.isa (.var 1) [.tuple]) [.sh (.tup xs), .sh (.tup ys), .no] = some (true, [.sh (.tup xs), .sh (.tup ys), .no]) := by simp [isa2, Ty.of]
  rw [evS, bind_of t1, if_pos rfl]
  have t2 : evT gl (evF gl tb k) (.tor [(.not (.isa (.var 0) [.tuple])), (.cmp .ne (.blt .len [(.var 0)]) (.blt .len [(.var 1)]))]) [.sh (.tup xs), .sh (.tup ys), .no] = some (false, [.sh (.tup xs), .sh (.tup ys), .no]) := by
    simp [isa2, Ty.of, kept, hl]
  have t3 : evS gl (evF gl tb k) (.ite (.tor [(.not (.isa (.var 0) [.tuple])), (.cmp .ne (.blt .len [(.var 0)]) (.blt .len [(.var 1)]))]) [(.ret [(.bl false)])] []) [.sh (.tup xs), .sh (.tup ys), .no] = some (.next, [.sh (.tup xs), .sh (.tup ys), .no]) := by
    rw [evS, bind_of t2]; rfl
  rw [ss_next t3]
  refine ss_ret ?_
  have t4 : moved (.cmp .eq c (.lst [])) (evX gl (evF gl tb k) (.cmp .eq c (.lst []))) [.sh (.tup xs), .sh (.tup ys), .no] = some ((false, .bl true), [.sh (.tup xs), .sh (.tup ys), .no]) := e4
  rw [evS, bind_of t4]
  rfl
end
end PV

/-! PL8: lists of ints as values -/
namespace PV
theorem getInts_map : ∀ ns : List Int, getInts (ns.map T.int) = some ns
  | [] => rfl
  | x :: r => by
    show (match getInts (r.map T.int) with | some is => some (x :: is) | none => none) = _
    rw [getInts_map r]
theorem plains_ints (n : Nat) : ∀ ns : List Int, T.plains n (ns.map T.int) = true
  | [] => by cases n <;> rfl
  | x :: r => by
    have e : T.plain n (.int x) = true := by cases n <;> rfl
    rw [List.map_cons, T.plains, e, plains_ints n r]
    rfl
theorem eqs_ints : ∀ ns : List Int, T.eqs (ns.map T.int) (ns.map T.int) = true
  | [] => rfl
  | x :: r => by
    rw [List.map_cons, T.eqs, eqs_ints r]
    show (x == x && true) = true
    simp
theorem eq_lst (ns : List Int) : cmp2 .eq (.lst (ns.map T.int)) (.lst (ns.map T.int)) = some true := by
  have h1 : T.plain deep (.lst (ns.map T.int)) = true := plains_ints 59 ns
  have h2 : T.eq (.lst (ns.map T.int)) (.lst (ns.map T.int)) = true := eqs_ints ns
  show (if T.plain deep _ && T.plain deep _ then some (T.eq _ _) else none) = _
  rw [h1, h2]
  rfl
theorem eq_tup (ns : List Int) : cmp2 .eq (.tup (ns.map T.int)) (.tup (ns.map T.int)) = some true := by
  have h1 : T.plain deep (.tup (ns.map T.int)) = true := plains_ints 59 ns
  have h2 : T.eq (.tup (ns.map T.int)) (.tup (ns.map T.int)) = true := eqs_ints ns
  show (if T.plain deep _ && T.plain deep _ then some (T.eq _ _) else none) = _
  rw [h1, h2]
  rfl
/-- 0 .. n - 1 -/
def upTo (n : Nat) : List Int := (List.range n).map fun j => ((j : Nat) : Int)
theorem upTo_len (n : Nat) : (upTo n).length = n := by simp [upTo]
theorem upTo_T (n : Nat) : (upTo n).map T.int = (List.range n).map fun j => T.int (j : Nat) := by
  unfold upTo
  rw [List.map_map]
  rfl
theorem upTo_sorted (n : Nat) : (upTo n).Pairwise (· ≤ ·) := by
  unfold upTo
  rw [List.pairwise_map]
  exact List.pairwise_lt_range.imp fun h => by omega
theorem sort_perm {ys : List Int} {n : Nat} (h : ys.Perm (upTo n)) : sortInts ys = upTo n := (sortInts_of h.symm (upTo_sorted n)).symm
theorem perm_mem {ys : List Int} {n : Nat} (h : ys.Perm (upTo n)) {y : Int} (hy : y ∈ ys) : 0 ≤ y ∧ y < n := by
  have := h.mem_iff.mp hy
  unfold upTo at this
  obtain ⟨j, hj, rfl⟩ := List.mem_map.mp this
  have := List.mem_range.mp hj
  omega
theorem getBools_true : ∀ n : Nat, getBools (List.replicate n (.bl true)) = some (List.replicate n true)
  | 0 => rfl
  | n + 1 => by
    rw [List.replicate_succ, List.replicate_succ]
    show (match getBools (List.replicate n (.bl true)) with | some is => some (true :: is) | none => none) = _
    rw [getBools_true n]
end PV

/-! PX1: more rewriting rules: loops and comprehensions by folded steps -/
namespace PV
/-- a slot that may be written; one that a comprehension may put aside -/
def free : Slot → Bool
  | .no => true | .sh _ => true | .ow _ => true | .bo _ => false | .lk _ => false
def calm : Slot → Bool
  | .no => true | .sh _ => true | .ow _ => false | .bo _ => false | .lk _ => false
@[simp] theorem free_no : free .no = true := rfl
@[simp] theorem free_sh {t : T} : free (.sh t) = true := rfl
@[simp] theorem free_ow {t : T} : free (.ow t) = true := rfl
@[simp] theorem free_bo {t : T} : free (.bo t) = false := rfl
@[simp] theorem free_lk {t : T} : free (.lk t) = false := rfl
@[simp] theorem calm_no : calm .no = true := rfl
@[simp] theorem calm_sh {t : T} : calm (.sh t) = true := rfl
@[simp] theorem calm_ow {t : T} : calm (.ow t) = false := rfl
def bodyF (gl : String → Option T) (cl : Cl) (tg : Tg) (body : List CS) : T → M Fl := fun x => do tgt tg x; evSs gl cl body
def whileF (gl : String → Option T) (cl : Cl) (c : CE) (body : List CS) (n : Nat) : M Fl := loopW (evT gl cl c) (evSs gl cl body) n
section
variable {gl : String → Option T} {cl : Cl}
@[simp] theorem s_kept {e : CE} {m : M (Bool × T)} (h : ∀ i, e ≠ CE.var i) : kept e m = (do let r ← m; M.pure r.2) := by
  cases e <;> first | rfl | exact absurd rfl (h _)
@[simp] theorem s_pre {e : CE} {m : M (Bool × T)} (h : ∀ i, e ≠ CE.var i) : pre e m = (do let r ← m; M.pure r.2) := by
  cases e <;> first | rfl | exact absurd rfl (h _)
@[simp] theorem s_preV {i : Nat} {m : M (Bool × T)} : pre (.var i) m = peek i := rfl
@[simp] theorem s_post {e : CE} {t : T} (h : ∀ i, e ≠ CE.var i) : post e t = M.pure t := by
  cases e <;> first | rfl | exact absurd rfl (h _)
@[simp] theorem s_postV {i : Nat} {t : T} : post (.var i) t = peek i := rfl
@[simp] theorem s_moved {e : CE} {m : M (Bool × T)} (h : ∀ i, e ≠ CE.var i) : moved e m = m := by
  cases e <;> first | rfl | exact absurd rfl (h _)
@[simp] theorem s_movedV {j : Nat} {m : M (Bool × T)} {g : G} : moved (.var j) m g = (match g[j]? with
    | some (.sh t) => some ((false, t), g)
    | some (.ow t) => some ((true, t), g.set j .no)
    | _ => none) := rfl
@[simp] theorem s_newOr {e : CE} {m : M (Bool × T)} (h : ∀ i, e ≠ CE.var i) : newOr e m = m := by
  cases e <;> first | rfl | exact absurd rfl (h _)
@[simp] theorem s_newOrV {j : Nat} {m : M (Bool × T)} : newOr (.var j) m = (do let t ← rd j; M.pure (false, t)) := rfl
@[simp] theorem s_rd {i : Nat} {g : G} : rd i g = (match g[i]? with
    | some (.sh t) => some (t, g)
    | some (.ow t) => some (t, g.set i (.sh t))
    | _ => none) := rfl
@[simp] theorem s_put {i : Nat} {s : Slot} {g : G} : put i s g = (match g[i]? with
    | some x => if free x = true then some ((), g.set i s) else none
    | none => none) := by
  unfold put
  cases g[i]? with
  | none => rfl
  | some x => cases x <;> rfl
@[simp] theorem s_mine {i : Nat} {g : G} : mine i g = (match g[i]? with
    | some (.ow t) => some (t, g)
    | some (.bo t) => some (t, g)
    | _ => none) := rfl
@[simp] theorem s_change {i : Nat} {t : T} {g : G} : change i t g = (match g[i]? with
    | some (.ow _) => some ((), g.set i (.ow t))
    | some (.bo _) => some ((), g.set i (.bo t))
    | _ => none) := rfl
@[simp] theorem s_tgtA {i : Nat} {t : T} : tgt (.at i) t = put i (.sh t) := by rw [tgt]
@[simp] theorem s_tgtR {ts : List Tg} {xs : List T} : tgt (.row ts) (.tup xs) = tgts ts xs := by rw [tgt]
@[simp] theorem s_tgts0 : tgts [] [] = M.pure () := by rw [tgts]
@[simp] theorem s_tgtsC {a : Tg} {ts : List Tg} {x : T} {xs : List T} : tgts (a :: ts) (x :: xs) = (do tgt a x; tgts ts xs) := by rw [tgts]
@[simp] theorem s_slotT {t : T} : slotOf (true, t) = .ow t := rfl
@[simp] theorem s_slotF {t : T} : slotOf (false, t) = .sh t := rfl
@[simp] theorem s_lentB {i : Nat} : CE.lent (.bor i) = some i := rfl
@[simp] theorem s_lentN {e : CE} (h : ∀ i, e ≠ CE.bor i) : e.lent = none := by
  cases e <;> first | rfl | exact absurd rfl (h _)
@[simp] theorem s_lentOf0 : lentOf [] = [] := rfl
@[simp] theorem s_lentOfC {e : CE} {r : List CE} : lentOf (e :: r) = (match e.lent with | some i => i :: lentOf r | none => lentOf r) := rfl
@[simp] theorem s_fill0 : fillArgs [] [] = M.pure [] := by rw [fillArgs]
@[simp] theorem s_fillC {e : CE} {es : List CE} {t : T} {ts : List T} : fillArgs (e :: es) (t :: ts) = (match e.lent with
    | some i => (do
      let u ← mine i
      let r ← fillArgs es ts
      M.pure (u :: r))
    | none => (do
      let r ← fillArgs es ts
      M.pure (t :: r))) := by rw [fillArgs]; try (cases e.lent <;> rfl)
@[simp] theorem s_back0 : backArgs [] [] = M.pure () := by rw [backArgs]
@[simp] theorem s_backC {i : Nat} {is : List Nat} {t : T} {ts : List T} : backArgs (i :: is) (t :: ts) = (do change i t; backArgs is ts) := by rw [backArgs]
@[simp] theorem s_putAll0 : putAll [] [] = M.pure () := rfl
@[simp] theorem s_putAllC {i : Nat} {is : List Nat} {r : Bool × T} {rs : List (Bool × T)} : putAll (i :: is) (r :: rs) = (do put i (slotOf r); putAll is rs) := rfl
@[simp] theorem s_clear0 : clearOwn [] = M.pure () := rfl
@[simp] theorem s_clearC {i : Nat} {r : List Nat} : clearOwn (i :: r) = (do clearOwn r; put i .no) := rfl
@[simp] theorem s_items_t {xs : List T} : T.items (.tup xs) = some xs := rfl
@[simp] theorem s_items_l {xs : List T} : T.items (.lst xs) = some xs := rfl
@[simp] theorem s_items_f {xs : List T} : T.items (.frl xs) = some xs := rfl
@[simp] theorem s_slotItV {j : Nat} : slotIt (.var j) = some j := rfl
@[simp] theorem s_slotItN {e : CE} (h : ∀ i, e ≠ CE.var i) : slotIt e = none := by
  cases e <;> first | rfl | exact absurd rfl (h _)
@[simp] theorem s_isTt {xs : List T} : isT (.tup xs) = true := rfl
@[simp] theorem s_isTl {xs : List T} : isT (.lst xs) = false := rfl
@[simp] theorem s_during0 {α : Type} {m : M α} : during none m = m := rfl
@[simp] theorem s_during1 {j : Nat} {α : Type} {m : M α} {g : G} : during (some j) m g = (match g[j]? with
    | some (.ow t) => @bindI _ _ (m (g.set j (.lk t))) ⟨fun q => some (q.1, q.2.set j (.ow t))⟩
    | some (.bo _) => none
    | _ => m g) := by
  unfold during
  simp only
  cases h : g[j]? with
  | none => rfl
  | some s =>
    cases s with
    | ow t =>
      simp only
      cases h2 : m (g.set j (.lk t)) with
      | none => rfl
      | some q => rfl
    | _ => rfl
@[simp] theorem s_within {own : List Nat} {α : Type} {m : M α} {g : G} : within own m g = if ownFree g own = true then @bindI _ _ (m (wipeOwn g own)) ⟨fun q => some (q.1, restore g q.2 own)⟩ else none := by
  unfold within
  split
  · cases h2 : m (wipeOwn g own) with
    | none => rfl
    | some q => rfl
  · rfl
@[simp] theorem s_ownFree {g : G} {own : List Nat} : ownFree g own = own.all fun i => match g[i]? with | some s => calm s | none => false := by
  unfold ownFree
  congr 1
  funext i
  cases g[i]? with
  | none => rfl
  | some x => cases x <;> rfl
@[simp] theorem s_wipe0 {g : G} : wipeOwn g [] = g := rfl
@[simp] theorem s_wipeC {g : G} {i : Nat} {r : List Nat} : wipeOwn g (i :: r) = (wipeOwn g r).set i .no := rfl
@[simp] theorem s_rest0 {g0 g : G} : restore g0 g [] = g := rfl
@[simp] theorem s_restC {g0 g : G} {i : Nat} {r : List Nat} : restore g0 g (i :: r) = (restore g0 g r).set i ((g0[i]?).getD .no) := rfl
@[simp] theorem x_for {tg : Tg} {it : CI} {body : List CS} : evS gl cl (.for tg it body) = (do
    let src ← evIt gl cl it
    during src.1 (loopF (bodyF gl cl tg body) src.2)) := by rw [evS]; rfl
@[simp] theorem x_while {c : CE} {body : List CS} : evS gl cl (.while c body) = whileF gl cl c body turns := by rw [evS]; rfl
@[simp] theorem x_comp {own : List Nat} {tg : Tg} {it : CI} {ifs : List CE} {elt : CE} : evX gl cl (.comp own tg it ifs elt) = (do
    let src ← evIt gl cl it
    let r ← during src.1 (within own (forC (stepC gl cl own tg ifs elt) src.2))
    ask (decide (r.length ≤ lim))
    M.pure (true, .lst r)) := by rw [evX]; rfl
theorem bodyF_at {tg : Tg} {body : List CS} {x : T} {g : G} : bodyF gl cl tg body x g = @bindI _ _ ((tgt tg x) g) ⟨fun p => evSs gl cl body p.2⟩ := by
  unfold bodyF; rw [ev_bind]
theorem stepC_at {own : List Nat} {tg : Tg} {ic : List CE} {ec : CE} {t : T} {g : G} : stepC gl cl own tg ic ec t g = @bindI _ _ ((tgt tg t) g) ⟨fun p => @bindI _ _ (evIfs gl cl ic p.2) ⟨fun q => if q.1 = true then @bindI _ _ (kept ec (evX gl cl ec) q.2) ⟨fun y => @bindI _ _ (clearOwn own y.2) ⟨fun z => some ([y.1], z.2)⟩⟩ else @bindI _ _ (clearOwn own q.2) ⟨fun z => some ([], z.2)⟩⟩⟩ := by
  unfold stepC
  rw [ev_bind]
  congr 2
  funext p
  rw [ev_bind]
  congr 2
  funext q
  rw [ev_ite]
  split
  · rw [ev_bind]
    congr 2
    funext y
    rw [ev_bind]
    rfl
  · rw [ev_bind]
    rfl
@[simp] theorem loopF_nil {f : T → M Fl} {g : G} : loopF f [] g = some (.next, g) := rfl
theorem loopF_cons {f : T → M Fl} {x : T} {xs : List T} {g : G} : loopF f (x :: xs) g = @bindI _ _ (f x g) ⟨fun p => match p.1 with
    | .next => loopF f xs p.2
    | .cont => loopF f xs p.2
    | .brk => some (.next, p.2)
    | .ret o t => some (.ret o t, p.2)⟩ := by
  simp only [loopF, ev_bind]
  congr 2
  funext p
  cases p.1 <;> rfl
theorem loopF_next {f : T → M Fl} {x : T} {xs : List T} {g g1 : G} (h : f x g = some (.next, g1)) : loopF f (x :: xs) g = loopF f xs g1 := by
  rw [loopF_cons, h]; rfl
theorem loopF_append {f : T → M Fl} : ∀ {xs ys : List T} {g g1 : G}, loopF f xs g = some (.next, g1) → (∀ x g g', f x g ≠ some (.brk, g')) → loopF f (xs ++ ys) g = loopF f ys g1
  | [], ys, g, g1, h, _ => by cases h; rfl
  | x :: xs, ys, g, g1, h, nb => by
    rw [loopF_cons] at h
    rw [List.cons_append, loopF_cons]
    cases hf : f x g with
    | none => rw [hf] at h; cases h
    | some p =>
      obtain ⟨fl, g2⟩ := p
      rw [hf] at h
      cases fl with
      | next => exact loopF_append h nb
      | cont => exact loopF_append h nb
      | brk => exact absurd hf (nb _ _ _)
      | ret o t => cases h
theorem whileF_succ {c : CE} {body : List CS} {n : Nat} {g : G} : whileF gl cl c body (n + 1) g = @bindI _ _ (evT gl cl c g) ⟨fun p => if p.1 = true then @bindI _ _ (evSs gl cl body p.2) ⟨fun q => (match q.1 with
    | .next => whileF gl cl c body n q.2
    | .cont => whileF gl cl c body n q.2
    | .brk => some (.next, q.2)
    | .ret o t => some (.ret o t, q.2))⟩ else some (.next, p.2)⟩ := by
  unfold whileF
  rw [loopW, ev_bind]
  congr 2
  funext p
  rw [ev_ite]
  split
  · rw [ev_bind]
    congr 2
    funext q
    cases q.1 <;> rfl
  · rfl
/-- the same state behind every turn -/
theorem forC_enc {α : Type} {f : T → M (List T)} {g : G} {enc : α → T} {r : α → List T} : ∀ {xs : List α}, (∀ x ∈ xs, f (enc x) g = some (r x, g)) → forC f (xs.map enc) g = some ((xs.map r).flatten, g)
  | [], _ => rfl
  | x :: xs, h => by
    simp only [List.map_cons, forC, bind_of (h x List.mem_cons_self), bind_of (forC_enc fun y hy => h y (List.mem_cons_of_mem _ hy))]
    rfl
/-- one item each -/
theorem forC_one {α β : Type} {f : T → M (List T)} {g : G} {enc : α → T} {en2 : β → T} {r : α → β} {xs : List α} (h : ∀ x ∈ xs, f (enc x) g = some ([en2 (r x)], g)) : forC f (xs.map enc) g = some ((xs.map r).map en2, g) := by
  rw [forC_enc (r := fun x => [en2 (r x)]) h]
  congr 2
  induction xs with
  | nil => rfl
  | cons x xs ih => rw [List.map_cons, List.flatten_cons, ih fun y hy => h y (List.mem_cons_of_mem _ hy)]; rfl
/-- some of the items -/
theorem forC_some {α β : Type} {f : T → M (List T)} {g : G} {enc : α → T} {en2 : β → T} {r : α → β} {p : α → Bool} {xs : List α} (h : ∀ x ∈ xs, f (enc x) g = some (if p x then [en2 (r x)] else [], g)) : forC f (xs.map enc) g = some (((xs.filter p).map r).map en2, g) := by
  rw [forC_enc (r := fun x => if p x then [en2 (r x)] else []) h]
  congr 2
  induction xs with
  | nil => rfl
  | cons x xs ih =>
    rw [List.map_cons, List.flatten_cons, ih fun y hy => h y (List.mem_cons_of_mem _ hy), List.filter_cons]
    cases p x <;> rfl
end
/-! ### indexes -/
def nT (n : Nat) : T := .int (n : Int)
@[simp] theorem nT_at (n : Nat) : nT n = .int (n : Int) := rfl
@[simp] theorem getAt_cast (xs : List T) (n : Nat) : getAt xs (n : Int) = xs[n]? := by
  unfold getAt place
  by_cases h : n < xs.length
  · rw [if_pos (by omega), if_pos (by omega)]; rfl
  · rw [if_pos (by omega), if_neg (by omega), List.getElem?_eq_none (by omega)]
@[simp] theorem getAt_lit (xs : List T) (n : Nat) : getAt xs (no_index (OfNat.ofNat n)) = xs[n]? := getAt_cast xs n
theorem getAt_castS (xs : List T) (n : Nat) : getAt xs ((n : Int) + 1) = xs[n + 1]? := getAt_cast xs (n + 1)
@[simp] theorem place_cast (m n : Nat) : place m (n : Int) = if n < m then some n else none := by
  unfold place
  rw [if_pos (by omega)]
  by_cases h : n < m
  · rw [if_pos (by omega), if_pos h]; rfl
  · rw [if_neg (by omega), if_neg h]
@[simp] theorem nT_eq (a b : Nat) : cmp2 .eq (.int (a : Int)) (.int (b : Int)) = some (decide (a = b)) := by
  rw [v_eqI]; congr 2; rw [Int.ofNat_inj]
theorem rng_map (n : Nat) : ((List.range n).map fun k => T.int (k : Nat)) = (List.range n).map nT := rfl
@[simp] theorem sum_ints (ns : List Int) : blt2 .sum [.lst (ns.map T.int)] = some (false, .int ns.sum) := by
  show (match getInts (ns.map T.int) with | some ns => some (false, T.int ns.sum) | none => none) = _
  rw [getInts_map]
@[simp] theorem v_tupL (xs : List T) : blt2 .tuple [.lst xs] = if xs.length ≤ lim then some (false, .tup xs) else none := rfl
@[simp] theorem v_tupT (xs : List T) : blt2 .tuple [.tup xs] = some (false, .tup xs) := rfl
@[simp] theorem v_listT (xs : List T) : blt2 .list [.tup xs] = if xs.length ≤ lim then some (true, .lst xs) else none := rfl
@[simp] theorem v_listL (xs : List T) : blt2 .list [.lst xs] = if xs.length ≤ lim then some (true, .lst xs) else none := rfl
@[simp] theorem v_max (i j : Int) : blt2 .max [.int i, .int j] = some (false, .int (max i j)) := by
  show some (false, T.int (if j > i then j else i)) = _
  congr 3
  omega
@[simp] theorem v_min (i j : Int) : blt2 .min [.int i, .int j] = some (false, .int (min i j)) := by
  show some (false, T.int (if j < i then j else i)) = _
  congr 3
  omega
@[simp] theorem v_addT (xs ys : List T) : bin2 .add (.tup xs) (.tup ys) = if xs.length + ys.length ≤ lim then some (false, .tup (xs ++ ys)) else none := rfl
@[simp] theorem v_addL (xs ys : List T) : bin2 .add (.lst xs) (.lst ys) = if xs.length + ys.length ≤ lim then some (true, .lst (xs ++ ys)) else none := rfl
@[simp] theorem v_revT (xs : List T) : rev2 (.tup xs) = if xs.length ≤ lim then some (false, .tup xs.reverse) else none := rfl
@[simp] theorem v_revL (xs : List T) : rev2 (.lst xs) = if xs.length ≤ lim then some (true, .lst xs.reverse) else none := rfl
@[simp] theorem v_ext (xs ys : List T) : mut2 .extend (.lst xs) [.lst ys] = if xs.length + ys.length ≤ lim then some (.non, .lst (xs ++ ys)) else none := rfl
@[simp] theorem v_truthT (xs : List T) : T.truth (.tup xs) = if xs.length ≤ lim then some (!xs.isEmpty) else none := rfl
@[simp] theorem v_truthL (xs : List T) : T.truth (.lst xs) = if xs.length ≤ lim then some (!xs.isEmpty) else none := rfl
@[simp] theorem v_isnN (neg : Bool) : T.isnV neg .non = !neg := rfl
@[simp] theorem v_isnI (neg : Bool) (i : Int) : T.isnV neg (.int i) = neg := rfl
@[simp] theorem v_isnT (neg : Bool) (xs : List T) : T.isnV neg (.tup xs) = neg := rfl
@[simp] theorem v_isnB (neg : Bool) (b : Bool) : T.isnV neg (.bl b) = neg := rfl
@[simp] theorem v_isnS (neg : Bool) (s : String) : T.isnV neg (.str s) = neg := rfl
@[simp] theorem v_isbB (neg b c : Bool) : T.isbV b neg (.bl c) = if c == b then !neg else neg := rfl
@[simp] theorem v_isbI (neg b : Bool) (i : Int) : T.isbV b neg (.int i) = neg := rfl
@[simp] theorem v_isbT (neg b : Bool) (xs : List T) : T.isbV b neg (.tup xs) = neg := rfl
@[simp] theorem v_mulT (xs : List T) (k : Int) : bin2 .mul (.tup xs) (.int k) = if decide (2 ≤ k) && decide (k ≤ 1000) && decide (xs.length ≤ 1000) && !xs.isEmpty then some (false, .tup (List.replicate k.toNat xs).flatten) else none := rfl
theorem lim_eq : lim = 1000000 := rfl
theorem rep_flat1 (x : T) : ∀ n : Nat, (List.replicate n [x]).flatten = List.replicate n x
  | 0 => rfl
  | n + 1 => by rw [List.replicate_succ, List.replicate_succ, List.flatten_cons, rep_flat1 x n]; rfl
theorem v_mulL (xs : List T) (k : Int) : bin2 .mul (.lst xs) (.int k) = if ltZ k (2 ^ 62) && decide (xs.length * k.toNat ≤ lim) then some (true, .lst (List.replicate k.toNat xs).flatten) else none := rfl
theorem mul_rep {x : T} {n : Nat} (h : n ≤ 1000000) : bin2 .mul (.lst [x]) (.int (n : Int)) = some (true, .lst (List.replicate n x)) := by
  have c : (ltZ (n : Int) (2 ^ 62) && decide ([x].length * (n : Int).toNat ≤ lim)) = true := by
    simp only [Bool.and_eq_true, decide_eq_true_eq, lt62]
    refine ⟨by omega, ?_⟩
    rw [List.length_singleton, lim_eq]; omega
  rw [v_mulL, if_pos c, Int.toNat_natCast, rep_flat1]
/-- a turn over a tuple and its places -/
theorem enum_map {α : Type} (enc : α → T) (xs : List α) : enumOf (xs.map enc) = ((List.range xs.length).zip xs).map fun p => T.tup [nT p.1, enc p.2] := by
  unfold enumOf
  rw [List.length_map, List.zip_map_right, List.map_map]
  rfl
end PV

/-! PX2: loop variables' slots, sorted lists, ranges -/
namespace PV
@[simp] theorem v_convL (xs : List T) : conv2 .list xs = if xs.length ≤ lim then some (true, .lst xs) else none := rfl
@[simp] theorem v_convT (xs : List T) : conv2 .tuple xs = if xs.length ≤ lim then some (false, .tup xs) else none := rfl
theorem le_lim {n : Nat} (h : n ≤ 1000000) : n ≤ lim := h
theorem lt_lim {n : Nat} (h : n < 1000000) : n < lim := h
@[simp] theorem lim_l0 : 0 ≤ lim := by decide
@[simp] theorem lim_l1 : 1 ≤ lim := by decide
@[simp] theorem lim_l2 : 2 ≤ lim := by decide
@[simp] theorem lim_l3 : 3 ≤ lim := by decide
@[simp] theorem lim_l4 : 4 ≤ lim := by decide
@[simp] theorem lim_l5 : 5 ≤ lim := by decide
@[simp] theorem lim_l6 : 6 ≤ lim := by decide
@[simp] theorem lim_l7 : 7 ≤ lim := by decide
@[simp] theorem lim_l8 : 8 ≤ lim := by decide
@[simp] theorem lim_l9 : 9 ≤ lim := by decide
@[simp] theorem lim_l10 : 10 ≤ lim := by decide
@[simp] theorem lim_l11 : 11 ≤ lim := by decide
@[simp] theorem lim_l12 : 12 ≤ lim := by decide
@[simp] theorem lim_l13 : 13 ≤ lim := by decide
@[simp] theorem lim_l14 : 14 ≤ lim := by decide
@[simp] theorem lim_l15 : 15 ≤ lim := by decide
@[simp] theorem lim_l16 : 16 ≤ lim := by decide
@[simp] theorem lim_l17 : 17 ≤ lim := by decide
@[simp] theorem lim_l18 : 18 ≤ lim := by decide
@[simp] theorem lim_l19 : 19 ≤ lim := by decide
@[simp] theorem lim_l20 : 20 ≤ lim := by decide
/-- a slot that a loop may write -/
abbrev Fr (s : Slot) : Prop := free s = true
theorem Fr_no : Fr .no := rfl
theorem Fr_sh {t : T} : Fr (.sh t) := rfl
theorem Fr_ow {t : T} : Fr (.ow t) := rfl
def lastV (s : Slot) : List T → Slot
  | [] => s
  | x :: xs => lastV (.sh x) xs
@[simp] theorem lastV_nil {s : Slot} : lastV s [] = s := rfl
@[simp] theorem lastV_cons {s : Slot} {x : T} {xs : List T} : lastV s (x :: xs) = lastV (.sh x) xs := rfl
theorem Fr_last : ∀ {xs : List T} {s : Slot}, Fr s → Fr (lastV s xs)
  | [], _, h => h
  | _ :: xs, _, _ => Fr_last (xs := xs) Fr_sh
theorem enum_ints (xs : List Int) : enumOf (xs.map T.int) = ((List.range xs.length).zip xs).map fun p => T.tup [T.int ((p.1 : Nat) : Int), T.int p.2] := enum_map T.int xs
theorem nat_ints (l : List Nat) : l.map nT = (l.map fun i => ((i : Nat) : Int)).map T.int := by rw [List.map_map]; rfl
theorem rng_ints (n : Nat) : ((List.range n).map fun k => T.int ((k : Nat) : Int)) = ((List.range n).map fun i => ((i : Nat) : Int)).map T.int := by rw [List.map_map]; rfl
theorem sort_nats (l : List Nat) (h : l.length ≤ 1000000) : blt2 .sorted [.tup (l.map nT)] = some (true, .lst ((sortInts (l.map fun i => ((i : Nat) : Int))).map T.int)) := by
  rw [nat_ints]
  show (match getInts ((l.map fun i => ((i : Nat) : Int)).map T.int) with | some ns => if ns.length ≤ lim then some (true, T.lst ((sortInts ns).map T.int)) else none | none => none) = _
  rw [getInts_map]
  simp only
  rw [if_pos (by rw [List.length_map]; exact h)]
theorem getBools_map : ∀ bs : List Bool, getBools (bs.map T.bl) = some bs
  | [] => rfl
  | b :: bs => by
    show (match getBools (bs.map T.bl) with | some is => some (b :: is) | none => none) = _
    rw [getBools_map bs]
theorem all_bools (bs : List Bool) : blt2 .all [.lst (bs.map T.bl)] = some (false, .bl (bs.all id)) := by
  show (match getBools (bs.map T.bl) with | some bs => some (false, T.bl (bs.all id)) | none => none) = _
  rw [getBools_map]
theorem any_bools (bs : List Bool) : blt2 .any [.lst (bs.map T.bl)] = some (false, .bl (bs.any id)) := by
  show (match getBools (bs.map T.bl) with | some bs => some (false, T.bl (bs.any id)) | none => none) = _
  rw [getBools_map]
theorem all_true {α : Type} (xs : List α) : blt2 .all [.lst ((xs.map fun _ => true).map T.bl)] = some (false, .bl true) := by
  rw [all_bools]; congr 3; simp
theorem rng2_int (a b : Int) (ha : 0 ≤ a) (ha2 : a ≤ 1000000) (h0 : -1000000 ≤ b) (h : b ≤ 1000000) : rngOf [.int a, .int b] = some ((List.range (b - a).toNat).map fun k => T.int (a + (k : Nat))) := by
  have c : (mid a && mid b && leZ (b - a) 16000000) = true := by
    unfold mid
    simp only [Bool.and_eq_true, lt60, le7]
    omega
  show (if (mid a && mid b && leZ (b - a) 16000000) = true then _ else _) = _
  rw [if_pos c]
theorem rng2_nat (a b : Nat) (ha : a ≤ 1000000) (h : b ≤ 1000000) : rngOf [.int (a : Int), .int (b : Int)] = some ((List.range' a (b - a)).map nT) := by
  rw [rng2_int _ _ (by omega) (by omega) (by omega) (by omega)]
  congr 1
  have e : ((b : Int) - a).toNat = b - a := by omega
  rw [e, List.range'_eq_map_range, List.map_map]
  apply List.map_congr_left
  intro x _
  show T.int _ = T.int _
  congr 1
end PV

/-! PX3: _law_is on a value and itself -/
namespace PV
section
variable {gl : String → Option T} {tb : String → Option Fd} {k : Nat}
def isv : Nat → T → Bool
  | _, .int _ => true
  | _, .bl _ => true
  | _, .non => true
  | n + 1, .tup xs => decide (xs.length ≤ lim) && xs.all (isv n)
  | _, _ => false
theorem is_refl (t : tb "_law_is" = some p_is) : ∀ (n : Nat) (v : T) (k : Nat), isv n v = true → evF gl tb (k + n + 1) "_law_is" [v, v] = some ⟨false, .bl true, []⟩
  | n, .int i, k, _ => is_int t i
  | n, .bl true, k, _ => by
    rw [evF_at t]
    simp -implicitDefEqProofs [p_is, evB, slots0, outs, isa2, Ty.of]
  | n, .bl false, k, _ => by
    rw [evF_at t]
    simp -implicitDefEqProofs [p_is, evB, slots0, outs, isa2, Ty.of]
  | n, .non, k, _ => by
    rw [evF_at t]
    simp -implicitDefEqProofs [p_is, evB, slots0, outs, isa2, Ty.of]
  | 0, .tup xs, k, h => by simp [isv] at h
  | n + 1, .tup xs, k, h => by
    simp only [isv, Bool.and_eq_true, decide_eq_true_eq, List.all_eq_true] at h
    refine is_tup t rfl h.1 fun j x y hx hy => ?_
    rw [hx] at hy
    cases hy
    exact is_refl t n x k (h.2 x (List.mem_of_getElem? hx))
  | 0, .str _, k, h => by simp [isv] at h
  | _ + 1, .str _, k, h => by simp [isv] at h
  | 0, .lst _, k, h => by simp [isv] at h
  | _ + 1, .lst _, k, h => by simp [isv] at h
  | 0, .frl _, k, h => by simp [isv] at h
  | _ + 1, .frl _, k, h => by simp [isv] at h
  | 0, .dct _ _, k, h => by simp [isv] at h
  | _ + 1, .dct _ _, k, h => by simp [isv] at h
  | 0, .ins _ _, k, h => by simp [isv] at h
  | _ + 1, .ins _ _, k, h => by simp [isv] at h
theorem is_same (t : tb "_law_is" = some p_is) {v w : T} (n k : Nat) (h : isv n v = true) (e : v = w) : evF gl tb (k + n + 1) "_law_is" [v, w] = some ⟨false, .bl true, []⟩ := by
  subst e; exact is_refl t n v k h
end
theorem isv_ints (n : Nat) (xs : List Int) (h : xs.length ≤ 1000000) : isv (n + 1) (.tup (xs.map T.int)) = true := by
  simp only [isv, Bool.and_eq_true, decide_eq_true_eq, List.all_eq_true]
  refine ⟨le_lim (by rw [List.length_map]; exact h), fun x hx => ?_⟩
  obtain ⟨i, _, rfl⟩ := List.mem_map.mp hx
  cases n <;> rfl
theorem drawn_nat {gl : String → Option T} {tb : String → Option Fd} {k : Nat} (t : tb "_law_draw" = some p_draw) (t2 : tb "_law_shuffled" = some p_shuffled) (t3 : tb "_law_drawn_order" = some p_drawn_order) (ns : List Int) (p : Int × Int × Int × Int) (hp : PenOk p) (n : Nat) (hn : n ≤ 10000) :
    ∃ (order : List Nat) (p' : Int × Int × Int × Int), evF gl tb (k+3) "_law_drawn_order" [penS ns p, .int (n : Int)] = some ⟨false, .tup (order.map nT), [penS ns p']⟩ ∧ order.Perm (List.range n) ∧ PenOk p' := by
  obtain ⟨ys, p', e, h, hp'⟩ := drawn_ok (gl := gl) (k := k) t t2 t3 ns p hp n hn
  have h2 := h.map Int.toNat
  rw [List.map_map] at h2
  have i : (Int.toNat ∘ fun j : Nat => ((j : Nat) : Int)) = id := by funext j; simp
  rw [i, List.map_id] at h2
  refine ⟨ys.map Int.toNat, p', ?_, h2, hp'⟩
  rw [e, nat_ints, List.map_map, List.map_map]
  congr 3
  apply List.map_congr_left
  intro y hy
  have := h.mem_iff.mp hy
  obtain ⟨j, _, rfl⟩ := List.mem_map.mp this
  simp
theorem shuffled_nat {gl : String → Option T} {tb : String → Option Fd} {k : Nat} (t : tb "_law_draw" = some p_draw) (t2 : tb "_law_shuffled" = some p_shuffled) (ns : List Int) (p : Int × Int × Int × Int) (hp : PenOk p) (xs : List Nat) (hx : xs.length ≤ 100000) :
    ∃ (ys : List Nat) (p' : Int × Int × Int × Int), evF gl tb (k+2) "_law_shuffled" [penS ns p, .lst (xs.map nT)] = some ⟨true, .lst (ys.map nT), [penS ns p']⟩ ∧ ys.Perm xs ∧ PenOk p' := by
  obtain ⟨ys, p', e, h, hp'⟩ := shuffled_ok (gl := gl) (k := k) t t2 ns p hp (xs.map fun i => ((i : Nat) : Int)) (by simpa using hx)
  rw [← nat_ints] at e
  have h2 := h.map Int.toNat
  rw [List.map_map] at h2
  have i : (Int.toNat ∘ fun j : Nat => ((j : Nat) : Int)) = id := by funext j; simp
  rw [i, List.map_id] at h2
  refine ⟨ys.map Int.toNat, p', ?_, h2, hp'⟩
  rw [e, nat_ints, List.map_map, List.map_map]
  congr 3
  apply List.map_congr_left
  intro y hy
  have := h.mem_iff.mp hy
  obtain ⟨j, _, rfl⟩ := List.mem_map.mp this
  simp
/-- a slot given what it holds -/
@[simp] theorem set_same {g : G} {i : Nat} {s : Slot} (h : g[i]? = some s) : g.set i s = g := by
  apply List.ext_getElem?
  intro j
  rw [List.getElem?_set]
  split
  · rename_i e; subst e; rw [h]; simp [(List.getElem?_eq_some_iff.mp h).1]
  · rfl
end PV

/-! PX4: lots of indexes as rows, sorted -/
namespace PV
def lotT (l : List Nat) : T := .tup (l.map nT)
theorem likes_nats : ∀ a b : List Nat, T.likes (a.map nT) (b.map nT) = true
  | [], _ => by simp [T.likes]
  | x :: a, [] => by simp [T.likes]
  | x :: a, y :: b => by
    rw [List.map_cons, List.map_cons, T.likes, likes_nats a b]
    rfl
theorem like_lots (a b : List Nat) : T.like (lotT a) (lotT b) = true := by
  unfold lotT
  rw [T.like]
  exact likes_nats a b
theorem plains_lots : ∀ L : List (List Nat), T.plains 30 (L.map lotT) = true
  | [] => by simp [T.plains]
  | l :: L => by
    rw [List.map_cons, T.plains, plains_lots L]
    have : T.plain 30 (lotT l) = true := by
      show T.plains 29 (l.map nT) = true
      rw [nat_ints, plains_ints]
    rw [this]
    rfl
def leLot (a b : List Nat) : Bool := leT (lotT a) (lotT b)
theorem sortD_lots (L : List (List Nat)) (h : L.length ≤ 1000000) : sortD (L.map lotT) = some ((L.mergeSort leLot).map lotT) := by
  unfold sortD
  rw [if_pos]
  · congr 1
    exact (List.map_mergeSort (r := leLot) (s := leT) (f := lotT) (l := L) fun a _ b _ => rfl).symm
  · simp only [Bool.and_eq_true, List.all_eq_true, decide_eq_true_eq]
    refine ⟨⟨⟨fun x hx => ?_, fun x hx y hy => ?_⟩, plains_lots L⟩, le_lim (by rw [List.length_map]; exact h)⟩
    · obtain ⟨l, _, rfl⟩ := List.mem_map.mp hx; rfl
    · obtain ⟨l, _, rfl⟩ := List.mem_map.mp hx
      obtain ⟨m, _, rfl⟩ := List.mem_map.mp hy
      exact like_lots l m
theorem sorted_lots (l : List Nat) (L : List (List Nat)) (h : (l :: L).length ≤ 1000000) : blt2 .sorted [.lst ((l :: L).map lotT)] = some (true, .lst (((l :: L).mergeSort leLot).map lotT)) := by
  show (match getInts ((l :: L).map lotT) with | some ns => if ns.length ≤ lim then some (true, T.lst ((sortInts ns).map T.int)) else none | none => (sortD ((l :: L).map lotT)).map fun ys => (true, T.lst ys)) = _
  have g : getInts ((l :: L).map lotT) = none := rfl
  rw [g, sortD_lots _ h]
  rfl
end PV

/-! QM: ratios as pairs, with the checks that the evaluator asks -/
namespace RQ
open PV
abbrev Q := Int × Int
def qT (x : Q) : T := .tup [.int x.1, .int x.2]
def mulC (a b : Int) : Option Int := if mulOk a b then some (a * b) else none
def gcdI (t b : Int) : Int := (Nat.gcd t.natAbs b.natAbs : Nat)
def lowC (t b : Int) : Option Q := if divOk b && divOk (gcdI t b) then some (t / gcdI t b, b / gcdI t b) else none
def addC (x y : Q) : Option Q := (mulC x.1 y.2).bind fun p => (mulC y.1 x.2).bind fun q => (mulC x.2 y.2).bind fun d => lowC (p + q) d
def timC (x y : Q) : Option Q := (mulC x.1 y.1).bind fun p => (mulC x.2 y.2).bind fun d => lowC p d
def lesC (x y : Q) : Option Bool := (mulC x.1 y.2).bind fun p => (mulC y.1 x.2).bind fun q => some (decide (p < q))
theorem mulC_some {a b r : Int} (h : mulC a b = some r) : mulOk a b = true ∧ r = a * b := by
  unfold mulC at h
  split at h
  · rename_i c; cases h; exact ⟨c, rfl⟩
  · cases h
theorem lowC_some {t b : Int} {r : Q} (h : lowC t b = some r) : divOk b = true ∧ divOk (gcdI t b) = true ∧ r = (t / gcdI t b, b / gcdI t b) := by
  unfold lowC at h
  split at h
  · rename_i c; cases h
    simp only [Bool.and_eq_true] at c
    exact ⟨c.1, c.2, rfl⟩
  · cases h
theorem addC_some {x y r : Q} (h : addC x y = some r) : mulOk x.1 y.2 = true ∧ mulOk y.1 x.2 = true ∧ mulOk x.2 y.2 = true ∧ lowC (x.1 * y.2 + y.1 * x.2) (x.2 * y.2) = some r := by
  unfold addC at h
  obtain ⟨p, h1, h⟩ := Option.bind_eq_some_iff.mp h
  obtain ⟨q, h2, h⟩ := Option.bind_eq_some_iff.mp h
  obtain ⟨d, h3, h⟩ := Option.bind_eq_some_iff.mp h
  obtain ⟨a1, rfl⟩ := mulC_some h1
  obtain ⟨a2, rfl⟩ := mulC_some h2
  obtain ⟨a3, rfl⟩ := mulC_some h3
  exact ⟨a1, a2, a3, h⟩
theorem timC_some {x y r : Q} (h : timC x y = some r) : mulOk x.1 y.1 = true ∧ mulOk x.2 y.2 = true ∧ lowC (x.1 * y.1) (x.2 * y.2) = some r := by
  unfold timC at h
  obtain ⟨p, h1, h⟩ := Option.bind_eq_some_iff.mp h
  obtain ⟨d, h3, h⟩ := Option.bind_eq_some_iff.mp h
  obtain ⟨a1, rfl⟩ := mulC_some h1
  obtain ⟨a3, rfl⟩ := mulC_some h3
  exact ⟨a1, a3, h⟩
theorem lesC_some {x y : Q} {r : Bool} (h : lesC x y = some r) : mulOk x.1 y.2 = true ∧ mulOk y.1 x.2 = true ∧ decide (x.1 * y.2 < y.1 * x.2) = r := by
  unfold lesC at h
  obtain ⟨p, h1, h⟩ := Option.bind_eq_some_iff.mp h
  obtain ⟨d, h3, h⟩ := Option.bind_eq_some_iff.mp h
  obtain ⟨a1, rfl⟩ := mulC_some h1
  obtain ⟨a3, rfl⟩ := mulC_some h3
  exact ⟨a1, a3, by cases h; rfl⟩
theorem divOk_pos {b : Int} (h : divOk b = true) : 0 < b := by
  unfold divOk at h
  simp only [Bool.and_eq_true, decide_eq_true_eq] at h
  exact h.1
theorem divOk_log {b : Int} (h : divOk b = true) : b.natAbs < 2 ^ 9000 := by
  unfold divOk at h
  simp only [Bool.and_eq_true, decide_eq_true_eq] at h
  exact (Nat.log2_lt (by omega)).mp h.2
@[simp] theorem v_gcd (a b : Int) : blt2 .gcd [.int a, .int b] = some (false, .int (gcdI a b)) := rfl
@[simp] theorem v_abs (a : Int) : blt2 .abs [.int a] = some (false, .int (if a < 0 then -a else a)) := rfl
theorem abs_nat (a : Int) : (if a < 0 then -a else a) = ((a.natAbs : Nat) : Int) := by split <;> omega
theorem half_lt {a b : Nat} (hb : 0 < b) (hr : 0 < a % b) {m : Nat} (h : b < 2 ^ (m + 1)) : b % (a % b) < 2 ^ m := by
  have h1 : a % b < b := Nat.mod_lt _ hb
  have h2 : b % (a % b) < a % b := Nat.mod_lt _ hr
  have h3 : b = (a % b) * (b / (a % b)) + b % (a % b) := (Nat.div_add_mod _ _).symm
  have h4 : 1 ≤ b / (a % b) := Nat.div_pos (Nat.le_of_lt h1) hr
  have h5 : (a % b) * 1 ≤ (a % b) * (b / (a % b)) := Nat.mul_le_mul_left _ h4
  rw [Nat.pow_succ] at h
  omega
/-- n, n - 1, .. , above b -/
def dn (n b : Nat) : List Nat := (List.range (n - b)).map (n - ·)
theorem rng_down (n b : Nat) (hn : n ≤ 1000000) (hb : b ≤ n) : rngOf [.int (n : Int), .int (b : Int), .int (-1)] = some ((dn n b).map nT) := by
  have c : (((-1 : Int) == -1) && mid (n : Int) && mid (b : Int) && leZ ((n : Int) - b) 16000000) = true := by
    unfold mid
    simp only [Bool.and_eq_true, lt60, le7]
    refine ⟨⟨⟨rfl, by omega⟩, by omega⟩, by omega⟩
  show (if (((-1 : Int) == -1) && mid (n : Int) && mid (b : Int) && leZ ((n : Int) - b) 16000000) = true then _ else _) = _
  rw [if_pos c]
  congr 1
  have e : ((n : Int) - b).toNat = n - b := by omega
  rw [e, dn, List.map_map]
  apply List.map_congr_left
  intro x hx
  have := List.mem_range.mp hx
  show T.int ((n : Int) + ((x : Nat) : Int) * (-1)) = T.int (((n - x : Nat)) : Int)
  congr 1
  omega
theorem mem_nats (x : Nat) (l : List Nat) : mem2 (.int (x : Int)) (.tup (l.map nT)) = some (decide (x ∈ l)) := by
  have h : (l.map nT) = (l.map fun i => ((i : Nat) : Int)).map T.int := nat_ints l
  show (if T.plain deep _ && T.plains deep _ then some ((l.map nT).any fun y => y.eq (T.int (x : Int))) else none) = _
  have p : (T.plain deep (.int (x : Int)) && T.plains deep (l.map nT)) = true := by
    rw [h, plains_ints]; rfl
  rw [if_pos p]
  congr 1
  induction l with
  | nil => rfl
  | cons y l ih =>
    rw [List.map_cons, List.any_cons, ih (nat_ints l) (by rw [nat_ints l, plains_ints]; rfl)]
    show (((y : Int) == (x : Int)) || _) = _
    by_cases e : y = x
    · subst e; simp
    · have e2 : ¬ (y : Int) = x := by omega
      have e3 : ¬ x = y := fun z => e z.symm
      have e4 : ((y : Int) == (x : Int)) = false := by simpa using e2
      rw [e4]
      simp [e3]
end RQ

/-! Q1: ratios: the program's, the law's own -/
namespace K63
open PV RQ
variable {k : Nat}
theorem e_lowest {t b : Int} {r : Q} (h : lowC t b = some r) : evF d_gl d_tb (k+1) "lowest" [.int t, .int b] = some ⟨false, qT r, []⟩ := by
  have t0 : d_tb "lowest" = some d_lowest := rfl
  obtain ⟨h1, h2, rfl⟩ := lowC_some h
  rw [evF_at t0]
  simp -implicitDefEqProofs [d_lowest, evB, slots0, outs, h2, qT]
theorem e_added {x y r : Q} (h : addC x y = some r) : evF d_gl d_tb (k+2) "added" [qT x, qT y] = some ⟨false, qT r, []⟩ := by
  have t0 : d_tb "added" = some d_added := rfl
  obtain ⟨h1, h2, h3, h4⟩ := addC_some h
  have e := e_lowest (k := k) h4
  rw [evF_at t0]
  simp -implicitDefEqProofs [d_added, evB, slots0, outs, h1, h2, h3, e, qT]
theorem e_times {x y r : Q} (h : timC x y = some r) : evF d_gl d_tb (k+2) "times" [qT x, qT y] = some ⟨false, qT r, []⟩ := by
  have t0 : d_tb "times" = some d_times := rfl
  obtain ⟨h1, h2, h4⟩ := timC_some h
  have e := e_lowest (k := k) h4
  rw [evF_at t0]
  simp -implicitDefEqProofs [d_times, evB, slots0, outs, h1, h2, e, qT]
theorem e_less {x y : Q} {r : Bool} (h : lesC x y = some r) : evF d_gl d_tb (k+1) "is_less" [qT x, qT y] = some ⟨false, .bl r, []⟩ := by
  have t0 : d_tb "is_less" = some d_is_less := rfl
  obtain ⟨h1, h2, rfl⟩ := lesC_some h
  rw [evF_at t0]
  simp -implicitDefEqProofs [d_is_less, evB, slots0, outs, h1, h2, qT]
theorem e_below {x y : Q} {r : Bool} (h : lesC x y = some r) : evF d_gl d_tb (k+1) "_law_below" [qT x, qT y] = some ⟨false, .bl r, []⟩ := by
  have t0 : d_tb "_law_below" = some d__law_below := rfl
  obtain ⟨h1, h2, rfl⟩ := lesC_some h
  rw [evF_at t0]
  simp -implicitDefEqProofs [d__law_below, evB, slots0, outs, h1, h2, qT]
theorem gcd_loop : ∀ (m a b n : Nat), b < 2 ^ m → 2 * m + 2 ≤ n → whileF d_gl (evF d_gl d_tb k) w1__law_gcd b2__law_gcd n [.sh (.int (a : Nat)), .sh (.int (b : Nat))] = some (.next, [.sh (.int (Nat.gcd a b : Nat)), .sh (.int 0)])
  | m, a, 0, n, h, hn => by
    obtain ⟨n, rfl⟩ : ∃ n', n = n' + 1 := ⟨n - 1, by omega⟩
    have c : evT d_gl (evF d_gl d_tb k) w1__law_gcd [.sh (.int (a : Nat)), .sh (.int ((0 : Nat) : Int))] = some (false, [.sh (.int (a : Nat)), .sh (.int ((0 : Nat) : Int))]) := by
      simp -implicitDefEqProofs [w1__law_gcd]
    rw [whileF_succ, c]
    simp
  | 0, a, b + 1, n, h, hn => by omega
  | m + 1, a, b + 1, n, h, hn => by
    obtain ⟨n, rfl⟩ : ∃ n', n = n' + 1 + 1 := ⟨n - 2, by omega⟩
    have step : ∀ (x y : Nat), 0 < y → evT d_gl (evF d_gl d_tb k) w1__law_gcd [.sh (.int (x : Nat)), .sh (.int (y : Nat))] = some (true, [.sh (.int (x : Nat)), .sh (.int (y : Nat))]) ∧ evSs d_gl (evF d_gl d_tb k) b2__law_gcd [.sh (.int (x : Nat)), .sh (.int (y : Nat))] = some (.next, [.sh (.int (y : Nat)), .sh (.int (x % y : Nat))]) := by
      intro x y hy
      have h0 : ¬ (y : Int) = 0 := by omega
      have h1 : (0 : Int) < (y : Int) := by omega
      have h2 : ¬ y = 0 := by omega
      constructor
      · simp -implicitDefEqProofs [w1__law_gcd, h0, h2]
      · simp -implicitDefEqProofs [b2__law_gcd, h1, hy]
    have s1 := step a (b + 1) (by omega)
    rw [whileF_succ, s1.1]
    simp only [bindI_some, if_pos, s1.2]
    by_cases hz : a % (b + 1) = 0
    · have c : evT d_gl (evF d_gl d_tb k) w1__law_gcd [.sh (.int ((b + 1 : Nat) : Int)), .sh (.int ((0 : Nat) : Int))] = some (false, [.sh (.int ((b + 1 : Nat) : Int)), .sh (.int ((0 : Nat) : Int))]) := by
        simp -implicitDefEqProofs [w1__law_gcd]
      rw [hz, whileF_succ, c]
      have g : Nat.gcd a (b + 1) = b + 1 := Nat.gcd_eq_right (Nat.dvd_of_mod_eq_zero hz)
      rw [g]
      simp
    · have s2 := step (b + 1) (a % (b + 1)) (by omega)
      rw [whileF_succ, s2.1]
      simp only [bindI_some, if_pos, s2.2]
      have ih := gcd_loop m (a % (b + 1)) ((b + 1) % (a % (b + 1))) n (half_lt (by omega) (by omega) h) (by omega)
      rw [ih]
      have g : Nat.gcd a (b + 1) = Nat.gcd (a % (b + 1)) ((b + 1) % (a % (b + 1))) := by
        rw [Nat.gcd_comm a, Nat.gcd_rec, Nat.gcd_rec (a % (b + 1)), Nat.gcd_comm]
      rw [g]
theorem e_gcd (a b : Int) (hb : b.natAbs < 2 ^ 9000) : evF d_gl d_tb (k+1) "_law_gcd" [.int a, .int b] = some ⟨false, .int (gcdI a b), []⟩ := by
  have t0 : d_tb "_law_gcd" = some d__law_gcd := rfl
  have l := gcd_loop (k := k) 9000 a.natAbs b.natAbs turns hb (by show _ ≤ 1000000000; omega)
  rw [evF_at t0]
  simp -implicitDefEqProofs [d__law_gcd, evB, slots0, outs, abs_nat, l, gcdI]
theorem e_pair {t b : Int} {r : Q} (h : lowC t b = some r) : evF d_gl d_tb (k+2) "_law_pair" [.int t, .int b] = some ⟨false, qT r, []⟩ := by
  have t0 : d_tb "_law_pair" = some d__law_pair := rfl
  obtain ⟨h1, h2, rfl⟩ := lowC_some h
  have e := e_gcd (k := k) t b (divOk_log h1)
  have p := divOk_pos h1
  rw [evF_at t0]
  simp -implicitDefEqProofs [d__law_pair, evB, slots0, outs, e, p, h2, qT]
theorem e_ladd {x y r : Q} (h : addC x y = some r) : evF d_gl d_tb (k+3) "_law_add" [qT x, qT y] = some ⟨false, qT r, []⟩ := by
  have t0 : d_tb "_law_add" = some d__law_add := rfl
  obtain ⟨h1, h2, h3, h4⟩ := addC_some h
  have e := e_pair (k := k) h4
  rw [evF_at t0]
  simp -implicitDefEqProofs [d__law_add, evB, slots0, outs, h1, h2, h3, e, qT]
theorem e_lmul {x y r : Q} (h : timC x y = some r) : evF d_gl d_tb (k+3) "_law_mul" [qT x, qT y] = some ⟨false, qT r, []⟩ := by
  have t0 : d_tb "_law_mul" = some d__law_mul := rfl
  obtain ⟨h1, h2, h4⟩ := timC_some h
  have e := e_pair (k := k) h4
  rw [evF_at t0]
  simp -implicitDefEqProofs [d__law_mul, evB, slots0, outs, h1, h2, e, qT]
theorem e_greater {x y : Q} {r : Bool} (h : lesC x y = some r) : evF d_gl d_tb (k+2) "_law_greater" [qT x, qT y] = some ⟨false, qT (if r then y else x), []⟩ := by
  have t0 : d_tb "_law_greater" = some d__law_greater := rfl
  have e := e_below (k := k) h
  rw [evF_at t0]
  cases r <;> simp -implicitDefEqProofs [d__law_greater, evB, slots0, outs, e]
end K63

/-! Q2: lots, chances, starts -/
namespace K63
open PV RQ
variable {k : Nat}
theorem e_whole (i : Int) : evF d_gl d_tb (k+1) "is_whole" [.int i] = some ⟨false, .bl true, []⟩ := rfl
theorem e_need (n : Nat) (h1 : 1 ≤ n) (h2 : n ≤ 60) : evF d_gl d_tb (k+2) "need_things" [.int (n : Int)] = some ⟨false, .non, []⟩ := by
  have t0 : d_tb "need_things" = some d_need_things := rfl
  have i1 : (1 : Int) ≤ n := by omega
  have i2 : (n : Int) ≤ 60 := by omega
  rw [evF_at t0]
  simp -implicitDefEqProofs [d_need_things, evB, slots0, outs, e_whole, d_gl, i1, i2]
def Good (n : Nat) (lot : List Nat) : Prop := (∀ x ∈ lot, 1 ≤ x ∧ x ≤ n) ∧ lot.Pairwise (· < ·) ∧ lot.length ≤ 1000
theorem zip_next : ∀ {lot : List Nat}, lot.Pairwise (· < ·) → ∀ p ∈ lot.dropLast.zip (lot.drop 1), p.1 < p.2
  | [], _, p, h => by simp at h
  | [a], _, p, h => by simp at h
  | a :: b :: r, hp, p, h => by
    have h' := List.pairwise_cons.mp hp
    simp only [List.dropLast_cons₂, List.drop_one, List.tail_cons, List.zip_cons_cons, List.mem_cons] at h
    rcases h with rfl | h
    · exact h'.1 b List.mem_cons_self
    · exact zip_next h'.2 p (by simpa using h)
theorem sl_last (xs : List T) : slice2 (.tup xs) none (some (-1)) = some (false, .tup xs.dropLast) := by
  show some (false, T.tup ((xs.drop 0).take (((-1 : Int) + xs.length).toNat - 0))) = _
  rw [List.drop_zero, List.dropLast_eq_take]
  congr 4
  omega
theorem sl_tail (xs : List T) : slice2 (.tup xs) (some 1) none = some (false, .tup (xs.drop 1)) := by
  show some (false, T.tup ((xs.drop (min 1 xs.length)).take (xs.length - min 1 xs.length))) = _
  congr 3
  cases xs with
  | nil => rfl
  | cons x r => simp
theorem sl_tailL (xs : List T) : slice2 (.lst xs) (some 1) none = some (true, .lst (xs.drop 1)) := by
  show some (true, T.lst ((xs.drop (min 1 xs.length)).take (xs.length - min 1 xs.length))) = _
  congr 3
  cases xs with
  | nil => rfl
  | cons x r => simp
theorem zip_map (a b : List Nat) : zipOf (a.map nT) (b.map nT) = (a.zip b).map fun p => T.tup [T.int ((p.1 : Nat) : Int), T.int ((p.2 : Nat) : Int)] := by
  unfold zipOf
  rw [List.zip_map, List.map_map]
  rfl
theorem e_known (n : Nat) (h1 : 1 ≤ n) (h2 : n ≤ 60) (lot : List Nat) (hg : Good n lot) : evF d_gl d_tb (k+3) "known_places" [.int (n : Int), .tup (lot.map nT)] = some ⟨false, .tup (lot.map nT), []⟩ := by
  have t0 : d_tb "known_places" = some d_known_places := rfl
  have e := e_need (k := k) n h1 h2
  have f1 : forC (stepC d_gl (evF d_gl d_tb (k+2)) [3] (.at 3) [] c1_known_places) (lot.map nT) [.sh (.int (n : Int)), .sh (.tup (lot.map nT)), .sh (.tup (lot.map nT)), .no, .no] = some ((lot.map fun _ => true).map T.bl, [.sh (.int (n : Int)), .sh (.tup (lot.map nT)), .sh (.tup (lot.map nT)), .no, .no]) :=
    forC_one fun x hx => by
      have hx := hg.1 x hx
      have i1 : (1 : Int) ≤ x := by omega
      have i2 : (x : Int) ≤ n := by omega
      simp -implicitDefEqProofs [stepC_at, c1_known_places, e_whole, i1, i2, hx.1, hx.2]
  have f2 : forC (stepC d_gl (evF d_gl d_tb (k+2)) [3, 4] (.row [(.at 3), (.at 4)]) [] c2_known_places) ((lot.dropLast.zip (lot.drop 1)).map fun p => T.tup [T.int ((p.1 : Nat) : Int), T.int ((p.2 : Nat) : Int)]) [.sh (.int (n : Int)), .sh (.tup (lot.map nT)), .sh (.tup (lot.map nT)), .no, .no] = some (((lot.dropLast.zip (lot.drop 1)).map fun _ => true).map T.bl, [.sh (.int (n : Int)), .sh (.tup (lot.map nT)), .sh (.tup (lot.map nT)), .no, .no]) :=
    forC_one fun p hp => by
      have hx := zip_next hg.2.1 p hp
      have i1 : (p.1 : Int) < p.2 := by omega
      simp -implicitDefEqProofs [stepC_at, c2_known_places, i1, hx]
  have l1 : lot.length ≤ lim := le_lim (by have := hg.2.2; omega)
  have l2 : (lot.dropLast.zip (lot.drop 1)).length ≤ lim := le_lim (by have := hg.2.2; simp; omega)
  have z := zip_map lot.dropLast (lot.drop 1)
  have m1 : (lot.map nT).dropLast = lot.dropLast.map nT := by rw [List.map_dropLast]
  have m2 : (lot.map nT).drop 1 = (lot.drop 1).map nT := by rw [List.map_drop]
  have s1 := sl_last (lot.map nT)
  have s2 := sl_tail (lot.map nT)
  rw [m1] at s1
  rw [m2] at s2
  generalize (lot.drop 1) = l2' at z s2 f2 l2 m2
  generalize lot.dropLast = l1' at z s1 f2 l2 m1
  have a1 := all_true lot
  have a2 := all_true (l1'.zip l2')
  rw [evF_at t0]
  generalize hf : ((l1'.zip l2').map fun p : Nat × Nat => T.tup [T.int ((p.1 : Nat) : Int), T.int ((p.2 : Nat) : Int)]) = xs at f2 z
  generalize hf3 : (((l1'.zip l2').map fun _ => true).map T.bl) = bs2 at f2 a2
  have l3 : bs2.length ≤ lim := by rw [← hf3]; simpa using l2
  generalize hf4 : ((lot.map fun _ => true).map T.bl) = bs1 at f1 a1
  have l4 : bs1.length ≤ lim := by rw [← hf4]; simpa using l1
  simp -implicitDefEqProofs [-List.map_map, d_known_places, evB, slots0, outs, isa2, Ty.of, e, f1, f2, l3, l4, a1, a2, s1, s2, z]
def lch (n : Nat) : List Nat → Q → Q → Option Q
  | [], f, _ => some f
  | p :: ps, f, l => (timC l (1, (n : Int))).bind fun a => (addC f a).bind fun f' => (lowC ((p : Int) - 1) p).bind fun q => (timC l q).bind fun l' => lch n ps f' l'
theorem chance_loop (n : Nat) (b : T) : ∀ (ps : List Nat) (f l r : Q) (s : Slot), lch n ps f l = some r → Fr s → ∃ s2 s4, loopF (bodyF d_gl (evF d_gl d_tb (k+2)) (.at 2) b1_lot_chance_by) (ps.map nT) [.sh (.int (n : Int)), .sh b, s, .sh (qT f), .sh (qT l)] = some (.next, [.sh (.int (n : Int)), .sh b, s2, .sh (qT r), s4])
  | [], f, l, r, s, h, _ => by cases h; exact ⟨s, .sh (qT l), rfl⟩
  | p :: ps, f, l, r, s, h, hs => by
    simp only [lch] at h
    obtain ⟨a, h1, h⟩ := Option.bind_eq_some_iff.mp h
    obtain ⟨f', h2, h⟩ := Option.bind_eq_some_iff.mp h
    obtain ⟨q, h3, h⟩ := Option.bind_eq_some_iff.mp h
    obtain ⟨l', h4, h⟩ := Option.bind_eq_some_iff.mp h
    have e1 := e_times (k := k) h1
    have e2 := e_added (k := k) h2
    have e3 := e_lowest (k := k+1) h3
    have e4 := e_times (k := k) h4
    obtain ⟨s2, s4, ih⟩ := chance_loop n b ps f' l' r (.sh (nT p)) h Fr_sh
    refine ⟨s2, s4, ?_⟩
    rw [List.map_cons, loopF_next (g1 := [.sh (.int (n : Int)), .sh b, .sh (nT p), .sh (qT f'), .sh (qT l')])]
    · exact ih
    · have w : qT (1, (n : Int)) = .tup [.int 1, .int n] := rfl
      rw [w] at e1
      simp -implicitDefEqProofs [bodyF_at, b1_lot_chance_by, hs, e1, e2, e3, e4]
theorem e_chance (n : Nat) (h1 : 1 ≤ n) (h2 : n ≤ 60) (lot : List Nat) (hg : Good n lot) (r : Q) (h : lch n lot (0, 1) (1, 1) = some r) : evF d_gl d_tb (k+4) "chance_of_best" [.int (n : Int), .tup (lot.map nT)] = some ⟨false, qT r, []⟩ := by
  have t0 : d_tb "lot_chance_by" = some d_lot_chance_by := rfl
  have t1 : d_tb "chance_of_best" = some d_chance_of_best := rfl
  have e := e_known (k := k) n h1 h2 lot hg
  obtain ⟨s2, s4, l⟩ := chance_loop (k := k) n (.tup (lot.map nT)) lot (0, 1) (1, 1) r .no h Fr_no
  have e2 : evF d_gl d_tb (k+3) "lot_chance_by" [.int (n : Int), .tup (lot.map nT)] = some ⟨false, qT r, []⟩ := by
    rw [evF_at t0]
    simp only [qT] at l ⊢
    simp -implicitDefEqProofs [d_lot_chance_by, evB, slots0, outs, l]
  rw [evF_at t1]
  simp -implicitDefEqProofs [d_chance_of_best, evB, slots0, outs, e, e2]
/-- places from the last one down; what is had behind each, the newest first -/
def chb (n : Nat) : List Nat → List Q → Option (List Q)
  | [], rb => some rb
  | p :: ps, rb => match rb with
    | [] => none
    | x :: r => (lowC p n).bind fun o => (lesC o x).bind fun l => (timC (1, (p : Int)) (if l then x else o)).bind fun a => (lowC ((p : Int) - 1) p).bind fun q => (timC q x).bind fun b => (addC a b).bind fun y => chb n ps (y :: x :: r)
theorem chb_some {n p : Nat} {ps : List Nat} {x : Q} {r rs : List Q} (h : chb n (p :: ps) (x :: r) = some rs) : ∃ o l a q b y, lowC p n = some o ∧ lesC o x = some l ∧ timC (1, (p : Int)) (if l then x else o) = some a ∧ lowC ((p : Int) - 1) p = some q ∧ timC q x = some b ∧ addC a b = some y ∧ chb n ps (y :: x :: r) = some rs := by
  simp only [chb] at h
  obtain ⟨o, h1, h⟩ := Option.bind_eq_some_iff.mp h
  obtain ⟨l, h2, h⟩ := Option.bind_eq_some_iff.mp h
  obtain ⟨a, h3, h⟩ := Option.bind_eq_some_iff.mp h
  obtain ⟨q, h4, h⟩ := Option.bind_eq_some_iff.mp h
  obtain ⟨b, h5, h⟩ := Option.bind_eq_some_iff.mp h
  obtain ⟨y, h6, h⟩ := Option.bind_eq_some_iff.mp h
  exact ⟨o, l, a, q, b, y, h1, h2, h3, h4, h5, h6, h⟩
theorem getAt_m1 (xs : List T) (y : T) : getAt (xs ++ [y]) (-1) = some y := by
  unfold getAt place
  rw [if_neg (by omega), if_pos (by simp; omega)]
  have e : ((-1 : Int) + ((xs ++ [y]).length : Nat)).toNat = xs.length := by simp; omega
  simp only [e]
  simp
theorem chb_loop (n : Nat) : ∀ (ps : List Nat) (x : Q) (r rs : List Q) (s2 s3 s4 s5 : Slot), chb n ps (x :: r) = some rs → r.length + ps.length ≤ 10000 → Fr s2 → Fr s3 → Fr s4 → Fr s5 → ∃ z2 z3 z4 z5, loopF (bodyF d_gl (evF d_gl d_tb (k+2)) (.at 2) b1_chances_behind) (ps.map nT) [.sh (.int (n : Int)), .ow (.lst ((x :: r).reverse.map qT)), s2, s3, s4, s5] = some (.next, [.sh (.int (n : Int)), .ow (.lst (rs.reverse.map qT)), z2, z3, z4, z5])
  | [], x, r, rs, s2, s3, s4, s5, h, _, _, _, _, _ => by cases h; exact ⟨s2, s3, s4, s5, rfl⟩
  | p :: ps, x, r, rs, s2, s3, s4, s5, h, hl, f2, f3, f4, f5 => by
    obtain ⟨o, l, a, q, b, y, h1, h2, h3, h4, h5, h6, h7⟩ := chb_some h
    have e1 := e_lowest (k := k+1) h1
    have e2 := e_less (k := k+1) h2
    have e3 := e_times (k := k) h3
    have e4 := e_lowest (k := k+1) h4
    have e5 := e_times (k := k) h5
    have e6 := e_added (k := k) h6
    have w : qT (1, (p : Int)) = .tup [.int 1, .int p] := rfl
    rw [w] at e3
    obtain ⟨t2, t3, t4, t5, ih⟩ := chb_loop n ps y (x :: r) rs (.sh (nT p)) (.sh (qT (if l then x else o))) (.sh (qT o)) (.sh (qT x)) h7 (by simp at hl ⊢; omega) Fr_sh Fr_sh Fr_sh Fr_sh
    refine ⟨t2, t3, t4, t5, ?_⟩
    have hlen : r.length + 1 < lim := lt_lim (by simp at hl; omega)
    have g := getAt_m1 (r.reverse.map qT) (qT x)
    rw [List.map_cons, loopF_next (g1 := [.sh (.int (n : Int)), .ow (.lst ((y :: x :: r).reverse.map qT)), .sh (nT p), .sh (qT (if l then x else o)), .sh (qT o), .sh (qT x)])]
    · exact ih
    · simp only [List.reverse_cons, List.map_append, List.map_cons, List.map_nil] at g ⊢
      generalize hrr : r.reverse.map qT = rr at g ⊢
      have hr2 : rr.length = r.length := by rw [← hrr]; simp
      cases l <;> simp at e3 <;> simp -implicitDefEqProofs [bodyF_at, b1_chances_behind, f2, f3, f4, f5, e1, e2, e3, e4, e5, e6, g, hr2, hlen]
def chances (n : Nat) : Option (List Q) := chb n (dn n 0) [(0, 1)]
theorem e_chances (n : Nat) (h2 : n ≤ 1000) (rs : List Q) (h : chances n = some rs) (hl : rs.length ≤ 10000) : evF d_gl d_tb (k+3) "chances_behind" [.int (n : Int)] = some ⟨true, .lst (rs.map qT), []⟩ := by
  have t0 : d_tb "chances_behind" = some d_chances_behind := rfl
  obtain ⟨s2, s3, s4, s5, l⟩ := chb_loop (k := k) n (dn n 0) (0, 1) [] rs .no .no .no .no h (by simp [dn]; omega) Fr_no Fr_no Fr_no Fr_no
  have r := rng_down n 0 (by omega) (by omega)
  have w : rs.length ≤ lim := le_lim (by omega)
  rw [evF_at t0]
  simp [qT] at l
  simp at r
  have e : (rs.reverse.map qT).reverse = rs.map qT := by simp
  simp -implicitDefEqProofs [d_chances_behind, evB, slots0, outs, r, l, w, qT]
end K63

/-! Q3: starts, flips, counts; the law's own -/
namespace K63
open PV RQ
variable {k : Nat}
theorem e_greatest (n : Nat) (h1 : 1 ≤ n) (h2 : n ≤ 60) (c : Q) (rs : List Q) (h : chances n = some (c :: rs)) (hl : rs.length ≤ 1000) : evF d_gl d_tb (k+4) "greatest_chance" [.int (n : Int)] = some ⟨false, qT c, []⟩ := by
  have t0 : d_tb "greatest_chance" = some d_greatest_chance := rfl
  have e := e_chances (k := k) n (by omega) _ h (by simp; omega)
  have e2 := e_need (k := k+1) n h1 h2
  rw [evF_at t0]
  simp -implicitDefEqProofs [d_greatest_chance, evB, slots0, outs, e, e2]
theorem e_behind (n : Nat) (h1 : 1 ≤ n) (h2 : n ≤ 60) (rs : List Q) (h : chances n = some rs) (hl : rs.length ≤ 1000) : evF d_gl d_tb (k+4) "behind_chances" [.int (n : Int)] = some ⟨false, .tup ((rs.drop 1).map qT), []⟩ := by
  have t0 : d_tb "behind_chances" = some d_behind_chances := rfl
  have e := e_chances (k := k) n (by omega) _ h (by omega)
  have e2 := e_need (k := k+1) n h1 h2
  have s := sl_tailL (rs.map qT)
  have l : (rs.drop 1).length ≤ lim := le_lim (by simp; omega)
  rw [← List.map_drop] at s
  rw [evF_at t0]
  generalize rs.drop 1 = ds at s l
  simp -implicitDefEqProofs [d_behind_chances, evB, slots0, outs, e, e2, s, l]
def bst : Nat → Q → Option Nat
  | 0, _ => none
  | p + 1, f => if p = 0 then some 1 else (addC f (1, (p : Int))).bind fun a => (lesC (1, 1) a).bind fun l => if l then some (p + 1) else bst p a
theorem bst_loop (n : T) : ∀ (p : Nat) (f : Q) (r m : Nat), bst (p + 1) f = some r → p < m → ∃ s, whileF d_gl (evF d_gl d_tb (k+2)) w1_best_start b2_best_start m [.sh n, .sh (qT f), .sh (.int ((p : Nat) + 1 : Int))] = some (.next, [.sh n, s, .sh (.int (r : Nat))])
  | 0, f, r, m + 1, h, hm => by
    simp [bst] at h
    subst h
    refine ⟨.sh (qT f), ?_⟩
    have c : evT d_gl (evF d_gl d_tb (k+2)) w1_best_start [.sh n, .sh (qT f), .sh (.int (((0 : Nat) : Int) + 1))] = some (false, [.sh n, .sh (qT f), .sh (.int (((0 : Nat) : Int) + 1))]) := by
      simp -implicitDefEqProofs [w1_best_start]
    rw [whileF_succ, c]
    simp
  | p + 1, f, r, m + 1, h, hm => by
    rw [bst, if_neg (by omega)] at h
    obtain ⟨a, h1, h⟩ := Option.bind_eq_some_iff.mp h
    obtain ⟨l, h2, h⟩ := Option.bind_eq_some_iff.mp h
    have e1 := e_added (k := k) h1
    have e2 := e_less (k := k+1) h2
    have w : qT (1, ((p + 1 : Nat) : Int)) = .tup [.int 1, .int ((p : Int) + 1)] := by simp [qT]
    have w2 : qT (1, 1) = .tup [.int 1, .int 1] := rfl
    rw [w] at e1
    rw [w2] at e2
    have g : (1 : Int) < (((p + 1 : Nat) : Int) + 1) := by omega
    have g2 : (1 : Int) < ((p : Int) + 1 + 1) := by omega
    have g3 : (p : Int) + 1 + 1 - 1 = (p : Int) + 1 := by omega
    have c : evT d_gl (evF d_gl d_tb (k+2)) w1_best_start [.sh n, .sh (qT f), .sh (.int (((p + 1 : Nat) : Int) + 1))] = some (!l, [.sh n, .sh (qT f), .sh (.int (((p + 1 : Nat) : Int) + 1))]) := by
      simp -implicitDefEqProofs [w1_best_start, g2, g3, e1, e2]
    rw [whileF_succ, c]
    cases l with
    | true =>
      simp at h
      subst h
      exact ⟨.sh (qT f), by simp⟩
    | false =>
      obtain ⟨s, ih⟩ := bst_loop n p a r m (by simpa using h) (by omega)
      refine ⟨s, ?_⟩
      have b : evSs d_gl (evF d_gl d_tb (k+2)) b2_best_start [.sh n, .sh (qT f), .sh (.int (((p + 1 : Nat) : Int) + 1))] = some (.next, [.sh n, .sh (qT a), .sh (.int ((p : Int) + 1))]) := by
        simp -implicitDefEqProofs [b2_best_start, g3, e1]
      simp only [bindI_some, Bool.not_false, if_pos, b]
      exact ih
theorem e_start (n : Nat) (h1 : 1 ≤ n) (h2 : n ≤ 60) (r : Nat) (h : bst n (0, 1) = some r) : evF d_gl d_tb (k+3) "best_start" [.int (n : Int)] = some ⟨false, .int (r : Nat), []⟩ := by
  have t0 : d_tb "best_start" = some d_best_start := rfl
  have e2 := e_need (k := k) n h1 h2
  obtain ⟨p, rfl⟩ : ∃ p, n = p + 1 := ⟨n - 1, by omega⟩
  obtain ⟨s, l⟩ := bst_loop (k := k) (.int ((p + 1 : Nat) : Int)) p (0, 1) r turns h (by show _ < 1000000000; omega)
  rw [evF_at t0]
  simp only [qT] at l
  simp at l e2
  simp -implicitDefEqProofs [d_best_start, evB, slots0, outs, e2, l]
def flp (n : Nat) (lot : List Nat) (p : Nat) (bh : List Q) : Option Bool :=
  if 1 ∈ lot ∧ p ≠ 1 then some false else (lowC p n).bind fun o => match bh[p]? with
    | none => none
    | some b => if p ∈ lot then lesC o b else lesC b o
theorem e_flip (n : Nat) (lot : List Nat) (p : Nat) (bh : List Q) (r : Bool) (h : flp n lot p bh = some r) : evF d_gl d_tb (k+2) "is_flip" [.int (n : Int), .tup (lot.map nT), .int (p : Int), .lst (bh.map qT)] = some ⟨false, .bl r, []⟩ := by
  have t0 : d_tb "is_flip" = some d_is_flip := rfl
  have m1 := mem_nats 1 lot
  have m2 := mem_nats p lot
  simp only [Int.natCast_one] at m1
  unfold flp at h
  rw [evF_at t0]
  split at h
  · rename_i c
    cases h
    have c2 : ¬ (p : Int) = 1 := by omega
    simp -implicitDefEqProofs [d_is_flip, evB, slots0, outs, m1, c.1, c2, c.2]
  · rename_i c
    obtain ⟨o, h1, h⟩ := Option.bind_eq_some_iff.mp h
    have e1 := e_lowest (k := k) h1
    cases hb : bh[p]? with
    | none => rw [hb] at h; cases h
    | some b =>
      rw [hb] at h
      simp only at h
      have hb2 : (bh.map qT)[p]? = some (qT b) := by rw [List.getElem?_map, hb]; rfl
      have c3 : (1 ∈ lot → p = 1) := fun z => Classical.byContradiction fun y => c ⟨z, y⟩
      split at h
      · rename_i hm
        have e2 := e_less (k := k) h
        by_cases hx : 1 ∈ lot
        · have := c3 hx
          subst this
          simp only [Int.natCast_one] at e1 ⊢
          simp -implicitDefEqProofs [d_is_flip, evB, slots0, outs, m1, hx, e1, e2, hb]
        · simp -implicitDefEqProofs [d_is_flip, evB, slots0, outs, m1, m2, hx, e1, e2, hb, hm]
      · rename_i hm
        have e2 := e_less (k := k) h
        by_cases hx : 1 ∈ lot
        · have := c3 hx
          subst this
          exact absurd hx hm
        · simp -implicitDefEqProofs [d_is_flip, evB, slots0, outs, m1, m2, hx, e1, e2, hb, hm]
theorem flips_loop (n : Nat) (lot : List Nat) (bh : List Q) : ∀ (ps : List Nat) (s3 s4 : Slot), (∀ p ∈ ps, flp n lot p bh = some false) → (s3 = .ow (.lst (bh.map qT)) ∨ s3 = .sh (.lst (bh.map qT))) → Fr s4 → ∃ z3 z4, loopF (bodyF d_gl (evF d_gl d_tb (k+2)) (.at 4) b1_first_flip) (ps.map nT) [.sh (.int (n : Int)), .sh (.tup (lot.map nT)), .sh (.tup (lot.map nT)), s3, s4] = some (.next, [.sh (.int (n : Int)), .sh (.tup (lot.map nT)), .sh (.tup (lot.map nT)), z3, z4])
  | [], s3, s4, _, _, _ => ⟨s3, s4, rfl⟩
  | p :: ps, s3, s4, h, h3, h4 => by
    have e := e_flip (k := k) n lot p bh false (h p List.mem_cons_self)
    obtain ⟨z3, z4, ih⟩ := flips_loop n lot bh ps (.sh (.lst (bh.map qT))) (.sh (nT p)) (fun q hq => h q (List.mem_cons_of_mem _ hq)) (.inr rfl) Fr_sh
    refine ⟨z3, z4, ?_⟩
    rw [List.map_cons, loopF_next (g1 := [.sh (.int (n : Int)), .sh (.tup (lot.map nT)), .sh (.tup (lot.map nT)), .sh (.lst (bh.map qT)), .sh (nT p)])]
    · exact ih
    · rcases h3 with rfl | rfl <;> simp -implicitDefEqProofs [bodyF_at, b1_first_flip, h4, e]
theorem e_first_flip (n : Nat) (h1 : 1 ≤ n) (h2 : n ≤ 60) (lot : List Nat) (hg : Good n lot) (bh : List Q) (hc : chances n = some bh) (hl : bh.length ≤ 1000) (h : ∀ p ∈ List.range' 1 n, flp n lot p bh = some false) : evF d_gl d_tb (k+4) "first_flip" [.int (n : Int), .tup (lot.map nT)] = some ⟨false, .non, []⟩ := by
  have t0 : d_tb "first_flip" = some d_first_flip := rfl
  have e := e_known (k := k) n h1 h2 lot hg
  have e2 := e_chances (k := k) n (by omega) bh hc (by omega)
  have r := rng2_nat 1 (n + 1) (by omega) (by omega)
  obtain ⟨z3, z4, l⟩ := flips_loop (k := k+1) n lot bh (List.range' 1 n) (.ow (.lst (bh.map qT))) .no h (.inl rfl) Fr_no
  rw [evF_at t0]
  simp at r
  generalize hz : (List.range' 1 n).map nT = xs at l r
  simp -implicitDefEqProofs [d_first_flip, evB, slots0, outs, e, e2, r, l]
theorem eq_q (a b : Q) : cmp2 .eq (qT a) (qT b) = some (decide (a = b)) := by
  have p : ∀ x y : Int, T.plain deep (.tup [.int x, .int y]) = true := fun x y => plains_ints 59 [x, y]
  unfold qT
  show (if T.plain deep (.tup [.int a.1, .int a.2]) && T.plain deep (.tup [.int b.1, .int b.2]) then some (T.eq (.tup [.int a.1, .int a.2]) (.tup [.int b.1, .int b.2])) else none) = _
  rw [p, p]
  show some ((a.1 == b.1) && ((a.2 == b.2) && true)) = _
  congr 1
  obtain ⟨a1, a2⟩ := a
  obtain ⟨b1, b2⟩ := b
  by_cases h : a1 = b1 <;> by_cases h' : a2 = b2 <;> simp [h, h']
theorem ne_q (a b : Q) : cmp2 .ne (qT a) (qT b) = some (!decide (a = b)) := by
  have p : ∀ x y : Int, T.plain deep (.tup [.int x, .int y]) = true := fun x y => plains_ints 59 [x, y]
  unfold qT
  show (if T.plain deep (.tup [.int a.1, .int a.2]) && T.plain deep (.tup [.int b.1, .int b.2]) then some (!T.eq (.tup [.int a.1, .int a.2]) (.tup [.int b.1, .int b.2])) else none) = _
  rw [p, p]
  show some (!((a.1 == b.1) && ((a.2 == b.2) && true))) = _
  congr 2
  obtain ⟨a1, a2⟩ := a
  obtain ⟨b1, b2⟩ := b
  by_cases h : a1 = b1 <;> by_cases h' : a2 = b2 <;> simp [h, h']
/-- how many lots are best, by the places -/
def fre (n : Nat) (bh : List Q) : List Nat → Int → Option Int
  | [], f => some f
  | p :: ps, f => (lowC p n).bind fun o => match bh[p]? with
    | none => none
    | some b => (mulC f (if o = b then 2 else 1)).bind fun f' => fre n bh ps f'
theorem fre_loop (n : Nat) (bh : List Q) : ∀ (ps : List Nat) (f r : Int) (s1 : Slot), fre n bh ps f = some r → Fr s1 → ∃ z1, loopF (bodyF d_gl (evF d_gl d_tb (k+2)) (.at 1) b1_best_lots_many) (ps.map nT) [.sh (.int (n : Int)), s1, .no, .no, .ow (.lst (bh.map qT)), .sh (.int f)] = some (.next, [.sh (.int (n : Int)), z1, .no, .no, .ow (.lst (bh.map qT)), .sh (.int r)])
  | [], f, r, s1, h, _ => by cases h; exact ⟨s1, rfl⟩
  | p :: ps, f, r, s1, h, h1 => by
    simp only [fre] at h
    obtain ⟨o, h2, h⟩ := Option.bind_eq_some_iff.mp h
    cases hb : bh[p]? with
    | none => rw [hb] at h; cases h
    | some b =>
      rw [hb] at h
      simp only at h
      obtain ⟨f', h3, h⟩ := Option.bind_eq_some_iff.mp h
      obtain ⟨m, rfl⟩ := mulC_some h3
      have e := e_lowest (k := k+1) h2
      have q := eq_q o b
      obtain ⟨z1, ih⟩ := fre_loop n bh ps _ r (.sh (nT p)) h Fr_sh
      refine ⟨z1, ?_⟩
      rw [List.map_cons, loopF_next (g1 := [.sh (.int (n : Int)), .sh (nT p), .no, .no, .ow (.lst (bh.map qT)), .sh (.int (f * (if o = b then 2 else 1)))])]
      · exact ih
      · by_cases hob : o = b
        · simp [hob] at q m e
          simp -implicitDefEqProofs [bodyF_at, b1_best_lots_many, h1, e, hb, q, hob, m]
        · simp [hob] at q m
          simp -implicitDefEqProofs [bodyF_at, b1_best_lots_many, h1, e, hb, q, hob, m]
def blm (n : Nat) (bh : List Q) : Option Int := (fre n bh (List.range' 2 (n - 1)) 1).bind fun f => (lowC 1 n).bind fun o => match bh[1]? with
  | none => none
  | some b => (lesC o b).bind fun l1 => (lesC b o).bind fun l2 => if powOk 1 ((n : Int) - 1) then some ((if l1 then 0 else 2 ^ (n - 1)) + (if l2 then 0 else f)) else none
theorem e_lots_many (n : Nat) (h1 : 1 ≤ n) (h2 : n ≤ 60) (bh : List Q) (hc : chances n = some bh) (hl : bh.length ≤ 1000) (r : Int) (h : blm n bh = some r) : evF d_gl d_tb (k+4) "best_lots_many" [.int (n : Int)] = some ⟨false, .int r, []⟩ := by
  have t0 : d_tb "best_lots_many" = some d_best_lots_many := rfl
  have e := e_need (k := k+1) n h1 h2
  have e2 := e_chances (k := k) n (by omega) bh hc (by omega)
  have rg := rng2_nat 2 (n + 1) (by omega) (by omega)
  have en : n + 1 - 2 = n - 1 := by omega
  rw [en] at rg
  unfold blm at h
  obtain ⟨f, f1, h⟩ := Option.bind_eq_some_iff.mp h
  obtain ⟨o, f2, h⟩ := Option.bind_eq_some_iff.mp h
  cases hb : bh[1]? with
  | none => rw [hb] at h; cases h
  | some b =>
    rw [hb] at h
    simp only at h
    obtain ⟨l1, f3, h⟩ := Option.bind_eq_some_iff.mp h
    obtain ⟨l2, f4, h⟩ := Option.bind_eq_some_iff.mp h
    split at h
    · rename_i hp
      cases h
      obtain ⟨z1, l⟩ := fre_loop (k := k+1) n bh _ 1 f .no f1 Fr_no
      have e3 := e_lowest (k := k+2) f2
      have e4 := e_less (k := k+2) f3
      have e5 := e_less (k := k+2) f4
      have sh : bin2 .shl (.int 1) (.int ((n : Int) - 1)) = some (false, .int (2 ^ (n - 1))) := by
        show (if powOk 1 ((n : Int) - 1) then some (false, T.int (1 * 2 ^ ((n : Int) - 1).toNat)) else none) = _
        rw [if_pos hp, Int.one_mul]
        congr 4
        omega
      rw [evF_at t0]
      simp at rg
      generalize hz : (List.range' 2 (n - 1)).map nT = xs at l rg
      cases l1 <;> cases l2 <;> simp -implicitDefEqProofs [d_best_lots_many, evB, slots0, outs, e, e2, rg, l, e3, e4, e5, hb, sh]
    · cases h
end K63

/-! Q4: the law's own sums, starts, lots -/
namespace K63
open PV RQ
variable {k : Nat}
def sumC : List Q → Q → Option Q
  | [], f => some f
  | x :: xs, f => (addC f x).bind fun a => sumC xs a
theorem sum_loop (b : T) : ∀ (qs : List Q) (f r : Q) (s : Slot), sumC qs f = some r → Fr s → ∃ z, loopF (bodyF d_gl (evF d_gl d_tb (k+3)) (.at 2) b1__law_sum_of) (qs.map qT) [.sh b, .sh (qT f), s] = some (.next, [.sh b, .sh (qT r), z])
  | [], f, r, s, h, _ => by cases h; exact ⟨s, rfl⟩
  | x :: qs, f, r, s, h, hs => by
    simp only [sumC] at h
    obtain ⟨a, h1, h⟩ := Option.bind_eq_some_iff.mp h
    have e := e_ladd (k := k) h1
    obtain ⟨z, ih⟩ := sum_loop b qs a r (.sh (qT x)) h Fr_sh
    refine ⟨z, ?_⟩
    rw [List.map_cons, loopF_next (g1 := [.sh b, .sh (qT a), .sh (qT x)])]
    · exact ih
    · simp -implicitDefEqProofs [bodyF_at, b1__law_sum_of, hs, e]
theorem e_sum (qs : List Q) (r : Q) (h : sumC qs (0, 1) = some r) : evF d_gl d_tb (k+4) "_law_sum_of" [.lst (qs.map qT)] = some ⟨false, qT r, []⟩ := by
  have t0 : d_tb "_law_sum_of" = some d__law_sum_of := rfl
  obtain ⟨z, l⟩ := sum_loop (k := k) (.lst (qs.map qT)) qs (0, 1) r .no h Fr_no
  rw [evF_at t0]
  simp only [qT] at l ⊢
  generalize qs.map (fun x : Q => T.tup [T.int x.1, T.int x.2]) = xs at l ⊢
  simp -implicitDefEqProofs [d__law_sum_of, evB, slots0, outs, l]
theorem low1 (p : Nat) (h1 : 1 ≤ p) (h2 : p ≤ 1000) : lowC 1 (p : Int) = some (1, (p : Int)) := by
  have g : gcdI 1 (p : Int) = 1 := by
    unfold gcdI
    show ((Nat.gcd 1 p : Nat) : Int) = 1
    rw [Nat.gcd_one_left]; rfl
  unfold lowC
  rw [g, div_ok (by omega) (by omega), div_ok (by omega) (by omega)]
  simp
def ones (s m : Nat) : List Q := (List.range' s m).map fun p : Nat => ((1, (p : Int)) : Q)
def lst (n : Nat) : List Nat → Option Nat
  | [] => none
  | s :: ss => (sumC (ones s (n - s)) (0, 1)).bind fun t => (lesC (1, 1) t).bind fun l => if l then lst n ss else some s
theorem start_loop (n : Nat) (hn : n ≤ 60) : ∀ (ss : List Nat) (r : Nat) (s1 s2 : Slot), lst n ss = some r → (∀ s ∈ ss, 1 ≤ s ∧ s ≤ n) → Fr s1 → Fr s2 → ∃ t, loopF (bodyF d_gl (evF d_gl d_tb (k+4)) (.at 1) b2__law_start) (ss.map nT) [.sh (.int (n : Int)), s1, s2, .no] = some (.ret false (.int (r : Nat)), .sh (.int (n : Int)) :: t)
  | [], r, s1, s2, h, _, _, _ => by cases h
  | s :: ss, r, s1, s2, h, hs, h1, h2 => by
    simp only [lst] at h
    obtain ⟨t, h3, h⟩ := Option.bind_eq_some_iff.mp h
    obtain ⟨l, h4, h⟩ := Option.bind_eq_some_iff.mp h
    have hs1 := hs s List.mem_cons_self
    have e1 := e_sum (k := k) _ t h3
    have e2 := e_below (k := k+3) h4
    have f1 : forC (stepC d_gl (evF d_gl d_tb (k+4)) [3] (.at 3) [] c1__law_start) ((List.range' s (n - s)).map nT) [.sh (.int (n : Int)), .sh (.int (s : Nat)), s2, .no] = some (((List.range' s (n - s)).map fun p : Nat => ((1, (p : Int)) : Q)).map qT, [.sh (.int (n : Int)), .sh (.int (s : Nat)), s2, .no]) :=
      forC_one fun p hp => by
        have hp' := List.mem_range'_1.mp hp
        have e := e_pair (k := k+2) (low1 p (by omega) (by omega))
        simp -implicitDefEqProofs [stepC_at, c1__law_start, e]
    have rg := rng2_nat s n (by omega) (by omega)
    have len : (ones s (n - s)).length ≤ lim := le_lim (by simp [ones]; omega)
    change forC _ _ _ = some ((ones s (n - s)).map qT, _) at f1
    generalize (List.range' s (n - s)).map nT = xs at f1 rg
    generalize ones s (n - s) = qs at f1 e1 len
    have w : qT (1, 1) = .tup [.int 1, .int 1] := rfl
    rw [w] at e2
    have st : bodyF d_gl (evF d_gl d_tb (k+4)) (.at 1) b2__law_start (nT s) [.sh (.int (n : Int)), s1, s2, .no] = some (if l then (Fl.next, [.sh (.int (n : Int)), .sh (.int (s : Nat)), .sh (qT t), .no]) else (Fl.ret false (.int (s : Nat)), [.sh (.int (n : Int)), .sh (.int (s : Nat)), .sh (qT t), .no])) := by
      cases l <;> simp -implicitDefEqProofs [bodyF_at, b2__law_start, h1, h2, rg, f1, len, e1, e2]
    cases l with
    | true =>
      obtain ⟨t', ih⟩ := start_loop n hn ss r (.sh (.int (s : Nat))) (.sh (qT t)) (by simpa using h) (fun q hq => hs q (List.mem_cons_of_mem _ hq)) Fr_sh Fr_sh
      refine ⟨t', ?_⟩
      rw [List.map_cons, loopF_next (g1 := [.sh (.int (n : Int)), .sh (.int (s : Nat)), .sh (qT t), .no])]
      · exact ih
      · simpa using st
    | false =>
      simp at h
      subst h
      refine ⟨[.sh (.int (s : Nat)), .sh (qT t), .no], ?_⟩
      rw [List.map_cons, loopF_cons, st]
      simp
theorem e_lstart (n : Nat) (hn : n ≤ 60) (r : Nat) (h : lst n (List.range' 1 n) = some r) : evF d_gl d_tb (k+5) "_law_start" [.int (n : Int)] = some ⟨false, .int (r : Nat), []⟩ := by
  have t0 : d_tb "_law_start" = some d__law_start := rfl
  obtain ⟨t, l⟩ := start_loop (k := k) n hn (List.range' 1 n) r .no .no h (fun s hs => by have := List.mem_range'_1.mp hs; omega) Fr_no Fr_no
  have rg := rng2_nat 1 (n + 1) (by omega) (by omega)
  rw [evF_at t0]
  simp at rg
  generalize (List.range' 1 n).map nT = xs at l rg
  simp -implicitDefEqProofs [d__law_start, evB, slots0, outs, rg, l]
theorem behind_loop (n : Nat) : ∀ (ps : List Nat) (x : Q) (r rs : List Q) (s2 s3 s4 : Slot), chb n ps (x :: r) = some rs → (∀ p ∈ ps, 1 ≤ p ∧ p ≤ 1000) → r.length + ps.length ≤ 10000 → Fr s2 → Fr s3 → Fr s4 → ∃ z2 z3 z4, loopF (bodyF d_gl (evF d_gl d_tb (k+3)) (.at 2) b1__law_behind) (ps.map nT) [.sh (.int (n : Int)), .ow (.lst ((x :: r).map qT)), s2, s3, s4] = some (.next, [.sh (.int (n : Int)), .ow (.lst (rs.map qT)), z2, z3, z4])
  | [], x, r, rs, s2, s3, s4, h, _, _, _, _, _ => by cases h; exact ⟨s2, s3, s4, rfl⟩
  | p :: ps, x, r, rs, s2, s3, s4, h, hp, hl, f2, f3, f4 => by
    obtain ⟨o, l, a, q, b, y, h1, h2, h3, h4, h5, h6, h7⟩ := chb_some h
    have hp1 := hp p List.mem_cons_self
    have e1 := e_pair (k := k+1) h1
    have e2 := e_greater (k := k+1) h2
    have e3 := e_lmul (k := k) h3
    have e4 := e_pair (k := k+1) h4
    have e5 := e_lmul (k := k) h5
    have e6 := e_ladd (k := k) h6
    have e7 := e_pair (k := k+1) (low1 p hp1.1 hp1.2)
    obtain ⟨z2, z3, z4, ih⟩ := behind_loop n ps y (x :: r) rs (.sh (nT p)) (.sh (qT o)) (.sh (qT x)) h7 (fun q hq => hp q (List.mem_cons_of_mem _ hq)) (by simp at hl ⊢; omega) Fr_sh Fr_sh Fr_sh
    refine ⟨z2, z3, z4, ?_⟩
    have hlen : 1 + (r.length + 1) ≤ lim := le_lim (by simp at hl; omega)
    have hlen2 : r.length + 1 + 1 ≤ lim := le_lim (by simp at hl; omega)
    rw [List.map_cons, loopF_next (g1 := [.sh (.int (n : Int)), .ow (.lst ((y :: x :: r).map qT)), .sh (nT p), .sh (qT o), .sh (qT x)])]
    · exact ih
    · simp -implicitDefEqProofs [bodyF_at, b1__law_behind, f2, f3, f4, e1, e2, e3, e4, e5, e6, e7, hlen, hlen2]
theorem e_lbehind (n : Nat) (h1 : 1 ≤ n) (hn : n ≤ 1000) (rs : List Q) (h : chb n (dn n 1) [(0, 1)] = some rs) : evF d_gl d_tb (k+4) "_law_behind" [.int (n : Int)] = some ⟨true, .lst (rs.map qT), []⟩ := by
  have t0 : d_tb "_law_behind" = some d__law_behind := rfl
  obtain ⟨z2, z3, z4, l⟩ := behind_loop (k := k) n (dn n 1) (0, 1) [] rs .no .no .no h (fun p hp => by
    unfold dn at hp
    obtain ⟨x, hx, rfl⟩ := List.mem_map.mp hp
    have := List.mem_range.mp hx
    omega) (by simp [dn]; omega) Fr_no Fr_no Fr_no
  have r := rng_down n 1 (by omega) h1
  rw [evF_at t0]
  simp only [Int.natCast_one] at r
  generalize (dn n 1).map nT = xs at l r
  generalize rs.map qT = ys at l ⊢
  simp only [List.map_cons, List.map_nil, qT] at l
  simp -implicitDefEqProofs [d__law_behind, evB, slots0, outs, r, l]
end K63

/-! Q5: all lots; the best of them -/
namespace K63
open PV RQ
variable {k : Nat}
def lotsGo : List Nat → List (List Nat) → List (List Nat)
  | [], L => L
  | i :: is, L => lotsGo is (L ++ L.map (· ++ [i]))
theorem lots_loop (n : T) : ∀ (is : List Nat) (L : List (List Nat)) (s2 : Slot), L.length * 2 ^ is.length ≤ 100000 → (∀ l ∈ L, l.length + is.length ≤ 1000) → Fr s2 → ∃ z, loopF (bodyF d_gl (evF d_gl d_tb k) (.at 2) b2__law_lots) (is.map nT) [.sh n, .ow (.lst (L.map lotT)), s2, .no] = some (.next, [.sh n, .ow (.lst ((lotsGo is L).map lotT)), z, .no])
  | [], L, s2, _, _, _ => ⟨s2, rfl⟩
  | i :: is, L, s2, hl, hb, h2 => by
    have hp : 1 ≤ 2 ^ is.length := Nat.one_le_two_pow
    rw [List.length_cons, Nat.pow_succ] at hl
    have hle : L.length * 2 * 1 ≤ L.length * 2 * 2 ^ is.length := Nat.mul_le_mul_left _ hp
    have hl2 : L.length * 2 * 2 ^ is.length ≤ 100000 := by
      have : L.length * 2 * 2 ^ is.length = L.length * (2 ^ is.length * 2) := by rw [Nat.mul_assoc, Nat.mul_comm 2]
      omega
    obtain ⟨z, ih⟩ := lots_loop n is (L ++ L.map (· ++ [i])) (.sh (nT i)) (by
      have : (L ++ L.map (· ++ [i])).length = L.length * 2 := by simp; omega
      rw [this]; exact hl2) (fun l hm => by
      rcases List.mem_append.mp hm with h | h
      · have := hb l h; simp at this; omega
      · obtain ⟨m, hm', rfl⟩ := List.mem_map.mp h
        have := hb m hm'; simp at this ⊢; omega) Fr_sh
    refine ⟨z, ?_⟩
    have f1 : forC (stepC d_gl (evF d_gl d_tb k) [3] (.at 3) [] c1__law_lots) (L.map lotT) [.sh n, .sh (.lst (L.map lotT)), .sh (.int (i : Nat)), .no] = some ((L.map (· ++ [i])).map lotT, [.sh n, .sh (.lst (L.map lotT)), .sh (.int (i : Nat)), .no]) :=
      forC_one fun l hm => by
        have hl1 : l.length + 1 ≤ lim := le_lim (by have := hb l hm; simp at this; omega)
        simp -implicitDefEqProofs [stepC_at, c1__law_lots, lotT, hl1]
    have b1 : L.length ≤ lim := le_lim (by omega)
    have b2 : L.length + L.length ≤ lim := le_lim (by omega)
    rw [List.map_cons, loopF_next (g1 := [.sh n, .ow (.lst ((L ++ L.map (· ++ [i])).map lotT)), .sh (nT i), .no])]
    · exact ih
    · rw [List.map_append]
      have ll : ((L.map (· ++ [i])).map lotT).length = L.length := by simp
      generalize (L.map (· ++ [i])).map lotT = ys at f1 ll ⊢
      simp -implicitDefEqProofs [bodyF_at, b2__law_lots, h2, f1, ll, b1, b2]
theorem e_lots (n : Nat) (hn : n ≤ 12) (l : List Nat) (L : List (List Nat)) (hL : lotsGo (List.range n) [[]] = l :: L) : evF d_gl d_tb (k+1) "_law_lots" [.int (n : Int)] = some ⟨true, .lst (((l :: L).mergeSort leLot).map lotT), []⟩ := by
  have t0 : d_tb "_law_lots" = some d__law_lots := rfl
  have hp : 2 ^ n ≤ 2 ^ 12 := Nat.pow_le_pow_right (by omega) hn
  obtain ⟨z, e⟩ := lots_loop (k := k) (.int (n : Int)) (List.range n) [[]] .no (by simp; omega) (by simp; omega) Fr_no
  rw [hL] at e
  have r := rng_nat n (by omega)
  rw [rng_map] at r
  have hlen : ∀ (is : List Nat) (L : List (List Nat)), (lotsGo is L).length = L.length * 2 ^ is.length := by
    intro is
    induction is with
    | nil => intro L; simp [lotsGo]
    | cons i is ih =>
      intro L
      rw [lotsGo, ih, List.length_append, List.length_map, List.length_cons, Nat.pow_succ, ← Nat.two_mul, Nat.mul_comm 2, Nat.mul_assoc, Nat.mul_comm 2]
  have hl2 := hlen (List.range n) [[]]
  rw [hL, List.length_range] at hl2
  have s := sorted_lots l L (by simp only [List.length_cons, List.length_nil] at hl2 ⊢; omega)
  rw [evF_at t0]
  generalize (List.range n).map nT = xs at e r
  generalize ((l :: L).mergeSort leLot).map lotT = ys at s ⊢
  generalize (l :: L).map lotT = zs at s e
  simp only [List.map_cons, List.map_nil, lotT] at e
  simp -implicitDefEqProofs [d__law_lots, evB, slots0, outs, r, e, s]
/-- what a lot brings -/
def val (n : Nat) (lot : List Nat) : List Nat → Q → Option Q
  | [], f => some f
  | p :: ps, f => if (p - 1) ∈ lot then (lowC ((p : Int) - 1) p).bind fun q => (timC q f).bind fun t => (addC (1, (n : Int)) t).bind fun a => val n lot ps a else val n lot ps f
theorem val_loop (n : Nat) (h1 : 1 ≤ n) (hn : n ≤ 60) (lot : List Nat) (a b : Slot) : ∀ (ps : List Nat) (f r : Q) (s5 : Slot), val n lot ps f = some r → (∀ p ∈ ps, 1 ≤ p) → Fr s5 → ∃ z, loopF (bodyF d_gl (evF d_gl d_tb (k+3)) (.at 5) b1__law_best_of) (ps.map nT) [.sh (.int (n : Int)), .sh (lotT lot), a, b, .sh (qT f), s5] = some (.next, [.sh (.int (n : Int)), .sh (lotT lot), a, b, .sh (qT r), z]) ∧ Fr z
  | [], f, r, s5, h, _, h5 => by cases h; exact ⟨s5, rfl, ‹_›⟩
  | p :: ps, f, r, s5, h, hp, h5 => by
    have hp1 := hp p List.mem_cons_self
    have m := mem_nats (p - 1) lot
    have c : (((p - 1 : Nat)) : Int) = (p : Int) - 1 := by omega
    rw [c] at m
    simp only [val] at h
    split at h
    · rename_i hm
      obtain ⟨q, e1, h⟩ := Option.bind_eq_some_iff.mp h
      obtain ⟨t, e2, h⟩ := Option.bind_eq_some_iff.mp h
      obtain ⟨x, e3, h⟩ := Option.bind_eq_some_iff.mp h
      have g1 := e_pair (k := k+1) e1
      have g2 := e_lmul (k := k) e2
      have g3 := e_ladd (k := k) e3
      have g4 := e_pair (k := k+1) (low1 n h1 (by omega))
      obtain ⟨z, ih, hz⟩ := val_loop n h1 hn lot a b ps x r (.sh (nT p)) h (fun q hq => hp q (List.mem_cons_of_mem _ hq)) Fr_sh
      refine ⟨z, ?_, hz⟩
      rw [List.map_cons, loopF_next (g1 := [.sh (.int (n : Int)), .sh (lotT lot), a, b, .sh (qT x), .sh (nT p)])]
      · exact ih
      · simp only [lotT] at ih ⊢
        simp -implicitDefEqProofs [bodyF_at, b1__law_best_of, h5, m, hm, g1, g2, g3, g4]
    · rename_i hm
      obtain ⟨z, ih, hz⟩ := val_loop n h1 hn lot a b ps f r (.sh (nT p)) h (fun q hq => hp q (List.mem_cons_of_mem _ hq)) Fr_sh
      refine ⟨z, ?_, hz⟩
      rw [List.map_cons, loopF_next (g1 := [.sh (.int (n : Int)), .sh (lotT lot), a, b, .sh (qT f), .sh (nT p)])]
      · exact ih
      · simp only [lotT] at ih ⊢
        simp -implicitDefEqProofs [bodyF_at, b1__law_best_of, h5, m, hm]
def bstF : List Q → Q → Int → Option (Q × Int)
  | [], b, m => some (b, m)
  | v :: vs, b, m => (lesC b v).bind fun l => if l then bstF vs v 1 else if b = v then bstF vs b (m + 1) else bstF vs b m
theorem best_loop (n : Nat) (h1 : 1 ≤ n) (hn : n ≤ 60) (v : List Nat → Q) : ∀ (SL : List (List Nat)) (b : Q) (m : Int) (g : Q) (c : Int) (s1 s4 s5 : Slot), (∀ l ∈ SL, val n l (dn n 0) (0, 1) = some (v l)) → bstF (SL.map v) b m = some (g, c) → Fr s1 → Fr s4 → Fr s5 → ∃ z1 z4 z5, loopF (bodyF d_gl (evF d_gl d_tb (k+3)) (.at 1) b2__law_best_of) (SL.map lotT) [.sh (.int (n : Int)), s1, .sh (qT b), .sh (.int m), s4, s5] = some (.next, [.sh (.int (n : Int)), z1, .sh (qT g), .sh (.int c), z4, z5])
  | [], b, m, g, c, s1, s4, s5, _, h, _, _, _ => by cases h; exact ⟨s1, s4, s5, rfl⟩
  | l :: SL, b, m, g, c, s1, s4, s5, hv, h, f1, f4, f5 => by
    rw [List.map_cons, bstF] at h
    obtain ⟨lt, e1, h⟩ := Option.bind_eq_some_iff.mp h
    have hvl := hv l List.mem_cons_self
    obtain ⟨z, vl, hz⟩ := val_loop (k := k) n h1 hn l (.sh (qT b)) (.sh (.int m)) (dn n 0) (0, 1) (v l) s5 hvl (fun p hp => by
      unfold dn at hp
      obtain ⟨x, hx, rfl⟩ := List.mem_map.mp hp
      have := List.mem_range.mp hx
      omega) f5
    have e2 := e_below (k := k+2) e1
    have q := eq_q b (v l)
    have r := rng_down n 0 (by omega) (by omega)
    have w : qT (0, 1) = .tup [.int 0, .int 1] := rfl
    rw [w] at vl
    simp only [Int.natCast_zero] at r
    have hv' : ∀ l ∈ SL, val n l (dn n 0) (0, 1) = some (v l) := fun x hx => hv x (List.mem_cons_of_mem _ hx)
    generalize (dn n 0).map nT = xs at vl r
    cases lt with
    | true =>
      obtain ⟨z1, z4, z5, ih⟩ := best_loop n h1 hn v SL (v l) 1 g c (.sh (lotT l)) (.sh (qT (v l))) z hv' (by simpa using h) Fr_sh Fr_sh hz
      refine ⟨z1, z4, z5, ?_⟩
      rw [List.map_cons, loopF_next (g1 := [.sh (.int (n : Int)), .sh (lotT l), .sh (qT (v l)), .sh (.int 1), .sh (qT (v l)), z])]
      · exact ih
      · simp -implicitDefEqProofs [bodyF_at, b2__law_best_of, f1, f4, r, vl, e2]
    | false =>
      simp only [Bool.false_eq_true, if_false] at h
      by_cases hb : b = v l
      · rw [if_pos hb] at h
        obtain ⟨z1, z4, z5, ih⟩ := best_loop n h1 hn v SL b (m + 1) g c (.sh (lotT l)) (.sh (qT (v l))) z hv' h Fr_sh Fr_sh hz
        refine ⟨z1, z4, z5, ?_⟩
        rw [List.map_cons, loopF_next (g1 := [.sh (.int (n : Int)), .sh (lotT l), .sh (qT b), .sh (.int (m + 1)), .sh (qT (v l)), z])]
        · exact ih
        · rw [decide_eq_true hb] at q
          simp -implicitDefEqProofs [bodyF_at, b2__law_best_of, f1, f4, r, vl, e2, q]
      · rw [if_neg hb] at h
        obtain ⟨z1, z4, z5, ih⟩ := best_loop n h1 hn v SL b m g c (.sh (lotT l)) (.sh (qT (v l))) z hv' h Fr_sh Fr_sh hz
        refine ⟨z1, z4, z5, ?_⟩
        rw [List.map_cons, loopF_next (g1 := [.sh (.int (n : Int)), .sh (lotT l), .sh (qT b), .sh (.int m), .sh (qT (v l)), z])]
        · exact ih
        · rw [decide_eq_false hb] at q
          simp -implicitDefEqProofs [bodyF_at, b2__law_best_of, f1, f4, r, vl, e2, q]
end K63

/-! Q6: what is checked number by number -/
namespace K63
open PV RQ
variable {k : Nat}
def smB (v : Q) : Bool := decide (0 ≤ v.1) && decide (v.1.natAbs < 1000000000000000) && decide (0 < v.2) && decide (v.2.natAbs < 1000000000000000)
theorem les_sm {a b : Q} (ha : smB a = true) (hb : smB b = true) : lesC a b = some (decide (a.1 * b.2 < b.1 * a.2)) := by
  simp only [smB, Bool.and_eq_true, decide_eq_true_eq] at ha hb
  unfold lesC mulC
  rw [if_pos (mulOk_l (by omega) (by omega)), if_pos (mulOk_l (by omega) (by omega))]
  rfl
theorem bstF_eq {g : Q} (hg : smB g = true) : ∀ (vs : List Q) (m : Int), (∀ v ∈ vs, smB v = true ∧ (v = g ∨ v.1 * g.2 < g.1 * v.2)) → bstF vs g m = some (g, m + (vs.count g : Nat))
  | [], m, _ => by simp [bstF]
  | v :: vs, m, h => by
    obtain ⟨h1, h2⟩ := h v List.mem_cons_self
    have h' : ∀ w ∈ vs, smB w = true ∧ (w = g ∨ w.1 * g.2 < g.1 * w.2) := fun w hw => h w (List.mem_cons_of_mem _ hw)
    rw [bstF, les_sm hg h1]
    simp only [Option.bind_some]
    by_cases e : v = g
    · subst e
      rw [if_neg (by simp), if_pos rfl, bstF_eq hg vs _ h', List.count_cons_self]
      congr 2
      omega
    · have h3 : v.1 * g.2 < g.1 * v.2 := h2.resolve_left e
      rw [if_neg (by simp; omega), if_neg (fun z => e z.symm), bstF_eq hg vs _ h', List.count_cons_of_ne e]
theorem bstF_lt {g : Q} (hg : smB g = true) : ∀ (vs : List Q) (b : Q) (m : Int), smB b = true → b.1 * g.2 < g.1 * b.2 → (∀ v ∈ vs, smB v = true ∧ (v = g ∨ v.1 * g.2 < g.1 * v.2)) → g ∈ vs → bstF vs b m = some (g, ((vs.count g : Nat) : Int))
  | [], b, m, _, _, _, hm => by cases hm
  | v :: vs, b, m, hb, hlt, h, hm => by
    obtain ⟨h1, h2⟩ := h v List.mem_cons_self
    have h' : ∀ w ∈ vs, smB w = true ∧ (w = g ∨ w.1 * g.2 < g.1 * w.2) := fun w hw => h w (List.mem_cons_of_mem _ hw)
    rw [bstF, les_sm hb h1]
    simp only [Option.bind_some]
    by_cases e : v = g
    · subst e
      rw [if_pos (by simpa using hlt), bstF_eq hg vs _ h', List.count_cons_self]
      congr 2
      omega
    · have h3 : v.1 * g.2 < g.1 * v.2 := h2.resolve_left e
      have hm' : g ∈ vs := (List.mem_cons.mp hm).resolve_left fun z => e z.symm
      rw [List.count_cons_of_ne e]
      split
      · exact bstF_lt hg vs v 1 h1 h3 h' hm'
      · split
        · exact bstF_lt hg vs b _ hb hlt h' hm'
        · exact bstF_lt hg vs b _ hb hlt h' hm'
def vOf (n : Nat) (l : List Nat) : Q := (val n l (dn n 0) (0, 1)).getD (0, 1)
def allL (n : Nat) : List (List Nat) := lotsGo (List.range n) [[]]
def chkF (n : Nat) : Bool := match chances n with
  | some (c :: rs) => match blm n (c :: rs) with
    | some b => smB c && decide (0 * c.2 < c.1 * 1) && decide (rs.length ≤ 100) && ((allL n).all fun l => (val n l (dn n 0) (0, 1)).isSome) && decide (c ∈ (allL n).map (vOf n)) && (((allL n).map (vOf n)).all fun v => smB v && (decide (v = c) || decide (v.1 * c.2 < c.1 * v.2))) && decide (((((allL n).map (vOf n)).count c : Nat) : Int) = b)
    | none => false
  | _ => false
theorem lotsGo_head : ∀ (is : List Nat) (l : List Nat) (L : List (List Nat)), ∃ L', lotsGo is (l :: L) = l :: L'
  | [], l, L => ⟨L, rfl⟩
  | i :: is, l, L => by rw [lotsGo]; exact lotsGo_head is l _
theorem few_ok (n : Nat) (h1 : 1 ≤ n) (hn : n ≤ 8) (h : chkF n = true) : ∃ (c : Q) (b : Int), evF d_gl d_tb (k+4) "greatest_chance" [.int (n : Int)] = some ⟨false, qT c, []⟩ ∧ evF d_gl d_tb (k+4) "best_lots_many" [.int (n : Int)] = some ⟨false, .int b, []⟩ ∧ evF d_gl d_tb (k+4) "_law_best_of" [.int (n : Int)] = some ⟨false, .tup [qT c, .int b], []⟩ := by
  unfold chkF at h
  split at h
  · rename_i c rs hc
    split at h
    · rename_i b hb
      simp only [Bool.and_eq_true, decide_eq_true_eq, List.all_eq_true, Bool.or_eq_true] at h
      obtain ⟨⟨⟨⟨⟨⟨a1, a2⟩, a3⟩, a4⟩, a5⟩, a6⟩, a7⟩ := h
      refine ⟨c, b, e_greatest n h1 (by omega) c rs hc (by omega), e_lots_many n h1 (by omega) _ hc (by simp; omega) b hb, ?_⟩
      have t0 : d_tb "_law_best_of" = some d__law_best_of := rfl
      obtain ⟨L', hL⟩ := lotsGo_head (List.range n) [] []
      have el := e_lots (k := k+2) n (by omega) _ _ hL
      have pm := List.mergeSort_perm ([] :: L') leLot
      have hall : allL n = [] :: L' := hL
      rw [hall] at a4 a5 a6 a7
      have pv := pm.map (vOf n)
      have key : bstF ((([] :: L').mergeSort leLot).map (vOf n)) (0, 1) 0 = some (c, b) := by
        rw [bstF_lt a1 _ (0, 1) 0 (by decide) a2 (fun v hv => ?_) (pv.mem_iff.mpr a5), pv.count_eq, a7]
        have := a6 v (pv.mem_iff.mp hv)
        exact this
      obtain ⟨z1, z4, z5, l⟩ := best_loop (k := k) n h1 (by omega) (vOf n) (([] :: L').mergeSort leLot) (0, 1) 0 c b .no .no .no (fun l hl => by
        have := a4 l (pm.mem_iff.mp hl)
        unfold vOf
        cases hx : val n l (dn n 0) (0, 1) with
        | none => rw [hx] at this; cases this
        | some x => rfl) key Fr_no Fr_no Fr_no
      rw [evF_at t0]
      generalize (([] :: L').mergeSort leLot).map lotT = xs at el l
      have w : qT (0, 1) = .tup [.int 0, .int 1] := rfl
      rw [w] at l
      simp -implicitDefEqProofs [d__law_best_of, evB, slots0, outs, el, l]
    · cases h
  · cases h
def own (n s : Nat) : List Nat := List.range' s (n + 1 - s)
theorem own_good (n s : Nat) (h1 : 1 ≤ s) (hs : s ≤ n) (hn : n ≤ 60) : Good n (own n s) := by
  refine ⟨fun x hx => ?_, List.pairwise_lt_range', by simp [own]; omega⟩
  have := List.mem_range'_1.mp hx
  omega
def isF (o : Option Bool) : Bool := match o with
  | some false => true
  | _ => false
def okO (n : Nat) (c : Q) (o : Nat) : Bool := match lch n (own n o) (0, 1) (1, 1) with
  | some t => isF (lesC c t)
  | none => false
def chkN (n : Nat) : Bool := match chances n, chb n (dn n 1) [(0, 1)], bst n (0, 1), lst n (List.range' 1 n) with
  | some (c :: rs), some bs, some s, some s' => decide (rs = bs) && decide (s = s') && decide (1 ≤ s) && decide (s ≤ n) && decide (rs.length ≤ 100) && decide (lch n (own n s) (0, 1) (1, 1) = some c) && ((List.range' 1 n).all fun p => isF (flp n (own n s) p (c :: rs))) && (decide (n ≤ 1) || decide (bs.head? = some c)) && (decide (60 ≤ n) || (match chances (n + 1) with | some (d :: ds) => isF (lesC c d) && decide (ds.length ≤ 100) | _ => false)) && ((List.range (n - 1)).all fun a => match bs[a]?, bs[a + 1]? with | some x, some y => isF (lesC x y) | _, _ => false) && (decide (n ≤ 2) || isF (lesC c (1, 3))) && (decide (s ≤ 1) || okO n c (s - 1)) && (decide (n ≤ s) || okO n c (s + 1)) && okO n c 1 && okO n c n
  | _, _, _, _ => false
end K63

/-! Q7: the numbers -/
namespace K63
set_option maxHeartbeats 0 in
theorem chkF_1 : chkF 1 = true := by decide +kernel
set_option maxHeartbeats 0 in
theorem chkF_2 : chkF 2 = true := by decide +kernel
set_option maxHeartbeats 0 in
theorem chkF_3 : chkF 3 = true := by decide +kernel
set_option maxHeartbeats 0 in
theorem chkF_4 : chkF 4 = true := by decide +kernel
set_option maxHeartbeats 0 in
theorem chkF_5 : chkF 5 = true := by decide +kernel
set_option maxHeartbeats 0 in
theorem chkF_6 : chkF 6 = true := by decide +kernel
set_option maxHeartbeats 0 in
theorem chkF_7 : chkF 7 = true := by decide +kernel
set_option maxHeartbeats 0 in
theorem chkF_8 : chkF 8 = true := by decide +kernel
set_option maxHeartbeats 0 in
theorem chkN_1 : chkN 1 = true := by decide +kernel
set_option maxHeartbeats 0 in
theorem chkN_2 : chkN 2 = true := by decide +kernel
set_option maxHeartbeats 0 in
theorem chkN_3 : chkN 3 = true := by decide +kernel
set_option maxHeartbeats 0 in
theorem chkN_4 : chkN 4 = true := by decide +kernel
set_option maxHeartbeats 0 in
theorem chkN_5 : chkN 5 = true := by decide +kernel
set_option maxHeartbeats 0 in
theorem chkN_6 : chkN 6 = true := by decide +kernel
set_option maxHeartbeats 0 in
theorem chkN_7 : chkN 7 = true := by decide +kernel
set_option maxHeartbeats 0 in
theorem chkN_8 : chkN 8 = true := by decide +kernel
set_option maxHeartbeats 0 in
theorem chkN_9 : chkN 9 = true := by decide +kernel
set_option maxHeartbeats 0 in
theorem chkN_10 : chkN 10 = true := by decide +kernel
set_option maxHeartbeats 0 in
theorem chkN_11 : chkN 11 = true := by decide +kernel
set_option maxHeartbeats 0 in
theorem chkN_12 : chkN 12 = true := by decide +kernel
set_option maxHeartbeats 0 in
theorem chkN_13 : chkN 13 = true := by decide +kernel
set_option maxHeartbeats 0 in
theorem chkN_14 : chkN 14 = true := by decide +kernel
set_option maxHeartbeats 0 in
theorem chkN_15 : chkN 15 = true := by decide +kernel
set_option maxHeartbeats 0 in
theorem chkN_16 : chkN 16 = true := by decide +kernel
set_option maxHeartbeats 0 in
theorem chkN_17 : chkN 17 = true := by decide +kernel
set_option maxHeartbeats 0 in
theorem chkN_18 : chkN 18 = true := by decide +kernel
set_option maxHeartbeats 0 in
theorem chkN_19 : chkN 19 = true := by decide +kernel
set_option maxHeartbeats 0 in
theorem chkN_20 : chkN 20 = true := by decide +kernel
set_option maxHeartbeats 0 in
theorem chkN_21 : chkN 21 = true := by decide +kernel
set_option maxHeartbeats 0 in
theorem chkN_22 : chkN 22 = true := by decide +kernel
set_option maxHeartbeats 0 in
theorem chkN_23 : chkN 23 = true := by decide +kernel
set_option maxHeartbeats 0 in
theorem chkN_24 : chkN 24 = true := by decide +kernel
set_option maxHeartbeats 0 in
theorem chkN_25 : chkN 25 = true := by decide +kernel
set_option maxHeartbeats 0 in
theorem chkN_26 : chkN 26 = true := by decide +kernel
set_option maxHeartbeats 0 in
theorem chkN_27 : chkN 27 = true := by decide +kernel
set_option maxHeartbeats 0 in
theorem chkN_28 : chkN 28 = true := by decide +kernel
set_option maxHeartbeats 0 in
theorem chkN_29 : chkN 29 = true := by decide +kernel
set_option maxHeartbeats 0 in
theorem chkN_30 : chkN 30 = true := by decide +kernel
set_option maxHeartbeats 0 in
theorem chkN_31 : chkN 31 = true := by decide +kernel
set_option maxHeartbeats 0 in
theorem chkN_32 : chkN 32 = true := by decide +kernel
set_option maxHeartbeats 0 in
theorem chkN_33 : chkN 33 = true := by decide +kernel
set_option maxHeartbeats 0 in
theorem chkN_34 : chkN 34 = true := by decide +kernel
set_option maxHeartbeats 0 in
theorem chkN_35 : chkN 35 = true := by decide +kernel
set_option maxHeartbeats 0 in
theorem chkN_36 : chkN 36 = true := by decide +kernel
set_option maxHeartbeats 0 in
theorem chkN_37 : chkN 37 = true := by decide +kernel
set_option maxHeartbeats 0 in
theorem chkN_38 : chkN 38 = true := by decide +kernel
set_option maxHeartbeats 0 in
theorem chkN_39 : chkN 39 = true := by decide +kernel
set_option maxHeartbeats 0 in
theorem chkN_40 : chkN 40 = true := by decide +kernel
set_option maxHeartbeats 0 in
theorem chkN_41 : chkN 41 = true := by decide +kernel
set_option maxHeartbeats 0 in
theorem chkN_42 : chkN 42 = true := by decide +kernel
set_option maxHeartbeats 0 in
theorem chkN_43 : chkN 43 = true := by decide +kernel
set_option maxHeartbeats 0 in
theorem chkN_44 : chkN 44 = true := by decide +kernel
set_option maxHeartbeats 0 in
theorem chkN_45 : chkN 45 = true := by decide +kernel
set_option maxHeartbeats 0 in
theorem chkN_46 : chkN 46 = true := by decide +kernel
set_option maxHeartbeats 0 in
theorem chkN_47 : chkN 47 = true := by decide +kernel
set_option maxHeartbeats 0 in
theorem chkN_48 : chkN 48 = true := by decide +kernel
set_option maxHeartbeats 0 in
theorem chkN_49 : chkN 49 = true := by decide +kernel
set_option maxHeartbeats 0 in
theorem chkN_50 : chkN 50 = true := by decide +kernel
set_option maxHeartbeats 0 in
theorem chkN_51 : chkN 51 = true := by decide +kernel
set_option maxHeartbeats 0 in
theorem chkN_52 : chkN 52 = true := by decide +kernel
set_option maxHeartbeats 0 in
theorem chkN_53 : chkN 53 = true := by decide +kernel
set_option maxHeartbeats 0 in
theorem chkN_54 : chkN 54 = true := by decide +kernel
set_option maxHeartbeats 0 in
theorem chkN_55 : chkN 55 = true := by decide +kernel
set_option maxHeartbeats 0 in
theorem chkN_56 : chkN 56 = true := by decide +kernel
set_option maxHeartbeats 0 in
theorem chkN_57 : chkN 57 = true := by decide +kernel
set_option maxHeartbeats 0 in
theorem chkN_58 : chkN 58 = true := by decide +kernel
set_option maxHeartbeats 0 in
theorem chkN_59 : chkN 59 = true := by decide +kernel
set_option maxHeartbeats 0 in
theorem chkN_60 : chkN 60 = true := by decide +kernel
theorem allF : ∀ n < 8, chkF (n + 1) = true
  | 0, _ => chkF_1
  | 1, _ => chkF_2
  | 2, _ => chkF_3
  | 3, _ => chkF_4
  | 4, _ => chkF_5
  | 5, _ => chkF_6
  | 6, _ => chkF_7
  | 7, _ => chkF_8
  | n + 8, h => absurd h (by omega)
theorem allN : ∀ n < 60, chkN (n + 1) = true
  | 0, _ => chkN_1
  | 1, _ => chkN_2
  | 2, _ => chkN_3
  | 3, _ => chkN_4
  | 4, _ => chkN_5
  | 5, _ => chkN_6
  | 6, _ => chkN_7
  | 7, _ => chkN_8
  | 8, _ => chkN_9
  | 9, _ => chkN_10
  | 10, _ => chkN_11
  | 11, _ => chkN_12
  | 12, _ => chkN_13
  | 13, _ => chkN_14
  | 14, _ => chkN_15
  | 15, _ => chkN_16
  | 16, _ => chkN_17
  | 17, _ => chkN_18
  | 18, _ => chkN_19
  | 19, _ => chkN_20
  | 20, _ => chkN_21
  | 21, _ => chkN_22
  | 22, _ => chkN_23
  | 23, _ => chkN_24
  | 24, _ => chkN_25
  | 25, _ => chkN_26
  | 26, _ => chkN_27
  | 27, _ => chkN_28
  | 28, _ => chkN_29
  | 29, _ => chkN_30
  | 30, _ => chkN_31
  | 31, _ => chkN_32
  | 32, _ => chkN_33
  | 33, _ => chkN_34
  | 34, _ => chkN_35
  | 35, _ => chkN_36
  | 36, _ => chkN_37
  | 37, _ => chkN_38
  | 38, _ => chkN_39
  | 39, _ => chkN_40
  | 40, _ => chkN_41
  | 41, _ => chkN_42
  | 42, _ => chkN_43
  | 43, _ => chkN_44
  | 44, _ => chkN_45
  | 45, _ => chkN_46
  | 46, _ => chkN_47
  | 47, _ => chkN_48
  | 48, _ => chkN_49
  | 49, _ => chkN_50
  | 50, _ => chkN_51
  | 51, _ => chkN_52
  | 52, _ => chkN_53
  | 53, _ => chkN_54
  | 54, _ => chkN_55
  | 55, _ => chkN_56
  | 56, _ => chkN_57
  | 57, _ => chkN_58
  | 58, _ => chkN_59
  | 59, _ => chkN_60
  | n + 60, h => absurd h (by omega)
end K63

/-! Q8: a lap of the law -/
namespace K63
open PV RQ
variable {k : Nat}
theorem isF_some {o : Option Bool} (h : isF o = true) : o = some false := by
  unfold isF at h
  split at h
  · rfl
  · cases h
theorem okO_some {n : Nat} {c : Q} {o : Nat} (h : okO n c o = true) : ∃ t, lch n (own n o) (0, 1) (1, 1) = some t ∧ lesC c t = some false := by
  unfold okO at h
  split at h
  · rename_i t ht; exact ⟨t, ht, isF_some h⟩
  · cases h
theorem others_loop (n : Nat) (h1 : 1 ≤ n) (hn : n ≤ 60) (c : Q) (eg : evF d_gl d_tb (k+4) "greatest_chance" [.int (n : Int)] = some ⟨false, qT c, []⟩) (a0 a1 a2 a4 a6 a7 a8 a10 : Slot) : ∀ (os : List Nat) (s5 s9 : Slot), (∀ o ∈ os, 1 ≤ o → o ≤ n → okO n c o = true) → (∀ o ∈ os, o ≤ 1000) → Fr s5 → Fr s9 → ∃ z5 z9, loopF (bodyF d_gl (evF d_gl d_tb (k+4)) (.at 5) b3_law) (os.map nT) [a0, a1, a2, .sh (.int (n : Int)), a4, s5, a6, a7, a8, s9, a10] = some (.next, [a0, a1, a2, .sh (.int (n : Int)), a4, z5, a6, a7, a8, z9, a10]) ∧ Fr z5 ∧ Fr z9
  | [], s5, s9, _, _, h5, h9 => ⟨s5, s9, rfl, h5, h9⟩
  | o :: os, s5, s9, h, hb, h5, h9 => by
    have hb1 := hb o List.mem_cons_self
    have h' : ∀ x ∈ os, 1 ≤ x → x ≤ n → okO n c x = true := fun x hx => h x (List.mem_cons_of_mem _ hx)
    have hb' : ∀ x ∈ os, x ≤ 1000 := fun x hx => hb x (List.mem_cons_of_mem _ hx)
    by_cases hx1 : 1 ≤ o
    · by_cases hx2 : o ≤ n
      · obtain ⟨t, ht, hl⟩ := okO_some (h o List.mem_cons_self hx1 hx2)
        have e1 := e_chance (k := k) n h1 hn (own n o) (own_good n o hx1 hx2 hn) t ht
        have e2 := e_below (k := k+3) hl
        have r := rng2_nat o (n + 1) (by omega) (by omega)
        have l : (own n o).length ≤ lim := le_lim (by simp [own]; omega)
        obtain ⟨z5, z9, ih, f5, f9⟩ := others_loop n h1 hn c eg a0 a1 a2 a4 a6 a7 a8 a10 os (.sh (nT o)) (.sh (qT t)) h' hb' Fr_sh Fr_sh
        refine ⟨z5, z9, ?_, f5, f9⟩
        rw [List.map_cons, loopF_next (g1 := [a0, a1, a2, .sh (.int (n : Int)), a4, .sh (nT o), a6, a7, a8, .sh (qT t), a10])]
        · exact ih
        · have i1 : (1 : Int) ≤ (o : Int) := by omega
          have i2 : (o : Int) ≤ (n : Int) := by omega
          change rngOf _ = some ((own n o).map nT) at r
          simp only [Int.natCast_add, Int.natCast_one] at r
          have l' : ((own n o).map nT).length ≤ lim := by rw [List.length_map]; exact l
          generalize (own n o).map nT = xs at r e1 l'
          simp -implicitDefEqProofs [bodyF_at, b3_law, h5, h9, i1, i2, hx1, hx2, r, l', e1, e2, eg]
      · obtain ⟨z5, z9, ih, f5, f9⟩ := others_loop n h1 hn c eg a0 a1 a2 a4 a6 a7 a8 a10 os (.sh (nT o)) s9 h' hb' Fr_sh h9
        refine ⟨z5, z9, ?_, f5, f9⟩
        rw [List.map_cons, loopF_next (g1 := [a0, a1, a2, .sh (.int (n : Int)), a4, .sh (nT o), a6, a7, a8, s9, a10])]
        · exact ih
        · have i1 : (1 : Int) ≤ (o : Int) := by omega
          have i2 : ¬ (o : Int) ≤ (n : Int) := by omega
          simp -implicitDefEqProofs [bodyF_at, b3_law, h5, h9, i1, i2, hx1, hx2]
    · obtain ⟨z5, z9, ih, f5, f9⟩ := others_loop n h1 hn c eg a0 a1 a2 a4 a6 a7 a8 a10 os (.sh (nT o)) s9 h' hb' Fr_sh h9
      refine ⟨z5, z9, ?_, f5, f9⟩
      rw [List.map_cons, loopF_next (g1 := [a0, a1, a2, .sh (.int (n : Int)), a4, .sh (nT o), a6, a7, a8, s9, a10])]
      · exact ih
      · have i1 : ¬ (1 : Int) ≤ (o : Int) := by omega
        have i0 : o = 0 := by omega
        subst i0
        simp -implicitDefEqProofs [bodyF_at, b3_law, h5, h9]
theorem falls (bs : List Q) (m : Nat) (hm : ∀ a < m, ∃ x y, bs[a]? = some x ∧ bs[a + 1]? = some y ∧ lesC x y = some false) {g : G} (h7 : g[7]? = some (.ow (.lst (bs.map qT)))) (h10 : g[10]? = some .no) : forC (stepC d_gl (evF d_gl d_tb (k+1)) [10] (.at 10) i1_law c2_law) ((List.range m).map nT) g = some ([], g) := by
  have e := forC_enc (f := stepC d_gl (evF d_gl d_tb (k+1)) [10] (.at 10) i1_law c2_law) (g := g) (enc := nT) (r := fun _ => []) (xs := List.range m) fun a ha => by
    obtain ⟨x, y, h1, h2, h3⟩ := hm a (List.mem_range.mp ha)
    have e1 := e_below (k := k) h3
    have hl : 10 < g.length := (List.getElem?_eq_some_iff.mp h10).1
    have k7 : ∀ s, (g.set 10 s)[7]? = some (.ow (.lst (bs.map qT))) := fun s => by rw [List.getElem?_set_ne (by decide), h7]
    have k10 : ∀ s, (g.set 10 s)[10]? = some s := fun s => List.getElem?_set_self hl
    simp -implicitDefEqProofs [stepC_at, i1_law, k7, k10, h10, getAt_castS, h1, h2, e1]
  rw [e]
  simp
def Keep (scr : T) (ns : List Int) (g : G) : Prop := ∃ (p : Int × Int × Int × Int) (s2 s3 s4 s5 s6 s7 s8 s9 : Slot), PenOk p ∧ g = [.sh scr, .ow (penS ns p), s2, s3, s4, s5, s6, s7, s8, s9, .no] ∧
  free s2 = true ∧ free s3 = true ∧ calm s3 = true ∧ free s4 = true ∧ free s5 = true ∧ free s6 = true ∧ free s7 = true ∧ free s8 = true ∧ free s9 = true
theorem ne_nil (xs : List T) : cmp2 .ne (.lst ([] : List T)) (.lst []) = some false := rfl
end K63

/-! Q9: a lap of the law -/
namespace K63
open PV RQ
variable {k : Nat}
theorem isv_q (n : Nat) (x : Q) : isv (n + 1) (qT x) = true := isv_ints n [x.1, x.2] (by simp)
theorem isv_qs (n : Nat) (bs : List Q) (h : bs.length ≤ 1000000) : isv (n + 2) (.tup (bs.map qT)) = true := by
  simp only [isv, Bool.and_eq_true, decide_eq_true_eq, List.all_eq_true]
  refine ⟨le_lim (by rw [List.length_map]; exact h), fun x hx => ?_⟩
  obtain ⟨q, _, rfl⟩ := List.mem_map.mp hx
  exact isv_q n q
structure Num (n s : Nat) (c : Q) (bs : List Q) : Prop where
  s1 : 1 ≤ s
  s2 : s ≤ n
  len : bs.length ≤ 100
  ch : chances n = some (c :: bs)
  lb : chb n (dn n 1) [(0, 1)] = some bs
  b : bst n (0, 1) = some s
  l : lst n (List.range' 1 n) = some s
  own : lch n (own n s) (0, 1) (1, 1) = some c
  fl : ∀ p ∈ List.range' 1 n, flp n (K63.own n s) p (c :: bs) = some false
  hd : 1 < n → bs[0]? = some c
  nx : n < 60 → ∃ d ds, chances (n + 1) = some (d :: ds) ∧ lesC c d = some false ∧ ds.length ≤ 100
  fa : ∀ a < n - 1, ∃ x y, bs[a]? = some x ∧ bs[a + 1]? = some y ∧ lesC x y = some false
  th : 2 < n → lesC c (1, 3) = some false
  o1 : 1 < s → okO n c (s - 1) = true
  o2 : s < n → okO n c (s + 1) = true
  o3 : okO n c 1 = true
  o4 : okO n c n = true
theorem num_of (n : Nat) (h : chkN n = true) : ∃ s c bs, Num n s c bs := by
  unfold chkN at h
  split at h
  · rename_i c rs bs s s' e1 e2 e3 e4
    simp only [Bool.and_eq_true, decide_eq_true_eq, List.all_eq_true, Bool.or_eq_true] at h
    obtain ⟨⟨⟨⟨⟨⟨⟨⟨⟨⟨⟨⟨⟨⟨a1, a2⟩, a3⟩, a4⟩, a5⟩, a6⟩, a7⟩, a8⟩, a9⟩, a10⟩, a11⟩, a12⟩, a13⟩, a14⟩, a15⟩ := h
    subst a1 a2
    refine ⟨s, c, rs, a3, a4, a5, e1, e2, e3, e4, a6, fun p hp => isF_some (a7 p hp), fun hn => ?_, fun hn => ?_, fun a ha => ?_, fun hn => ?_, fun hn => ?_, fun hn => ?_, a14, a15⟩
    · rcases a8 with z | z
      · omega
      · rw [← List.head?_eq_getElem?]; exact z
    · rcases a9 with z | z
      · omega
      · split at z
        · rename_i d ds hd
          simp only [Bool.and_eq_true, decide_eq_true_eq] at z
          exact ⟨d, ds, hd, isF_some z.1, z.2⟩
        · cases z
    · have z := a10 a (List.mem_range.mpr ha)
      split at z
      · rename_i x y hx hy
        exact ⟨x, y, hx, hy, isF_some z⟩
      · cases z
    · rcases a11 with z | z
      · omega
      · exact isF_some z
    · rcases a12 with z | z
      · omega
      · exact z
    · rcases a13 with z | z
      · omega
      · exact z
  · cases h
theorem lap (scr : T) (ns : List Int) (i : Nat) (g : G) (h : Keep scr ns g) : ∃ g', bodyF d_gl (evF d_gl d_tb (k+19)) (.at 2) b4_law (nT i) g = some (.next, g') ∧ Keep scr ns g' := by
  obtain ⟨p, s2, s3, s4, s5, s6, s7, s8, s9, hp, rfl, f2, f3, c3, f4, f5, f6, f7, f8, f9⟩ := h
  obtain ⟨m, p1, e1, a1, q1⟩ := pick_ok (gl := d_gl) (tb := d_tb) (k := k+17) rfl rfl ns p hp [.int 9, .int 30, .int 60] (by decide) (by decide)
  obtain ⟨mi, rfl, m1, m2⟩ : ∃ mi : Int, m = .int mi ∧ 1 ≤ mi ∧ mi ≤ 60 := by
    simp at a1
    rcases a1 with rfl | rfl | rfl
    · exact ⟨9, rfl, by decide, by decide⟩
    · exact ⟨30, rfl, by decide, by decide⟩
    · exact ⟨60, rfl, by decide, by decide⟩
  obtain ⟨r2, p2, e2, a2, b2, q2⟩ := draw_ok (gl := d_gl) (tb := d_tb) (k := k+18) rfl ns p1 q1 mi m1 (by omega)
  obtain ⟨n, hn⟩ : ∃ n : Nat, 1 + r2 = (n : Int) := ⟨(1 + r2).toNat, by omega⟩
  have n1 : 1 ≤ n := by omega
  have n2 : n ≤ 60 := by omega
  obtain ⟨s, c, bs, N⟩ := num_of n (by have := allN (n - 1) (by omega); rwa [show n - 1 + 1 = n by omega] at this)
  have hs1 := N.s1
  have hs2 := N.s2
  have hlen := N.len
  have k1 := e_lbehind (k := k+15) n n1 (by omega) bs N.lb
  have k2 := e_lstart (k := k+14) n n2 s N.l
  have k3 := e_behind (k := k+15) n n1 n2 _ N.ch (by simp; omega)
  rw [List.drop_succ_cons, List.drop_zero] at k3
  have k4 := e_start (k := k+16) n n1 n2 s N.b
  have y1 := is_same (gl := d_gl) (tb := d_tb) rfl (v := .tup [.tup (bs.map qT), .int (s : Nat)]) (w := .tup [.tup (bs.map qT), .int (s : Nat)]) 3 (k+15) (by
    have := isv_qs 0 bs (by omega)
    show (decide (2 ≤ lim) && (isv 2 _ && (true && true))) = true
    rw [this]; rfl) rfl
  have l1 : bs.length ≤ lim := le_lim (by omega)
  have r1 := rng2_nat s (n + 1) (by omega) (by omega)
  change rngOf _ = some ((own n s).map nT) at r1
  simp only [Int.natCast_add, Int.natCast_one] at r1
  have l2 : ((own n s).map nT).length ≤ lim := le_lim (by simp [own]; omega)
  have gd := own_good n s hs1 hs2 n2
  have k5 := e_greatest (k := k+15) n n1 n2 c bs N.ch (by omega)
  have k6 := e_chance (k := k+15) n n1 n2 (own n s) gd c N.own
  have k7 := e_first_flip (k := k+15) n n1 n2 (own n s) gd _ N.ch (by simp; omega) N.fl
  have k8 := ne_q c c
  simp only [decide_true, Bool.not_true] at k8
  have r3 := rng_nat (n - 1) (by omega)
  rw [rng_map] at r3
  have c1 : ((n - 1 : Nat) : Int) = (n : Int) - 1 := by omega
  rw [c1] at r3
  have nn := ne_nil []
  obtain ⟨r4, p3, e3, a3, b3, q3⟩ := draw_ok (gl := d_gl) (tb := d_tb) (k := k+18) rfl ns p2 q2 8 (by decide) (by decide)
  obtain ⟨f, hf⟩ : ∃ f : Nat, 1 + r4 = (f : Int) := ⟨(1 + r4).toNat, by omega⟩
  obtain ⟨c', b', k9, k10, k11⟩ := few_ok (k := k+15) f (by omega) (by omega) (by have := allF (f - 1) (by omega); rwa [show f - 1 + 1 = f by omega] at this)
  have y2 := is_same (gl := d_gl) (tb := d_tb) rfl (v := .tup [qT c', .int b']) (w := .tup [qT c', .int b']) 2 (k+16) (by
    have := isv_q 0 c'
    show (decide (2 ≤ lim) && (isv 1 _ && (true && true))) = true
    rw [this]; rfl) rfl
  obtain ⟨z5, z9, lo, g5, g9⟩ := others_loop (k := k+15) n n1 n2 c k5 (.sh scr) (.ow (penS ns p2)) (.sh (.int (i : Nat))) (.sh (.tup ((own n s).map nT))) s6 (.ow (.lst (bs.map qT))) (.sh (.int (s : Nat))) .no [s - 1, s + 1, 1, n] s5 s9 (fun o ho h1 h2 => by
    simp at ho
    rcases ho with rfl | rfl | rfl | rfl
    · exact N.o1 (by omega)
    · exact N.o2 (by omega)
    · exact N.o3
    · exact N.o4) (fun o ho => by simp at ho; omega) f5 f9
  have ho : [s - 1, s + 1, 1, n].map nT = [.int ((s : Int) - 1), .int ((s : Int) + 1), .int 1, .int (n : Int)] := by
    have : ((s - 1 : Nat) : Int) = (s : Int) - 1 := by omega
    show [T.int ((s - 1 : Nat) : Int), T.int ((s + 1 : Nat) : Int), T.int ((1 : Nat) : Int), T.int (n : Int)] = _
    rw [this]
    rfl
  rw [ho] at lo
  have fa : ∀ {g : G}, g[7]? = some (.ow (.lst (bs.map qT))) → g[10]? = some .no → forC (stepC d_gl (evF d_gl d_tb (k+19)) [10] (.at 10) i1_law c2_law) ((List.range (n - 1)).map nT) g = some ([], g) := fun {g} h7 h10 => falls (k := k+18) bs (n - 1) N.fa h7 h10
  have keep : Keep scr ns [.sh scr, .ow (penS ns p3), .sh (nT i), .sh (.int (n : Int)), .sh (.tup ((own n s).map nT)), z5, .sh (.int (f : Int)), .ow (.lst (bs.map qT)), .sh (.int (s : Nat)), z9, .no] := ⟨p3, _, _, _, _, _, _, _, _, q3, rfl, rfl, rfl, rfl, rfl, g5, rfl, rfl, rfl, g9⟩
  refine ⟨_, ?_, keep⟩
  rw [bodyF_at]
  generalize (own n s).map nT = xs at *
  generalize (List.range (n - 1)).map nT = rs at *
  have w13 : qT (1, 3) = .tup [.int 1, .int 3] := rfl
  rcases (by omega : n = 1 ∨ n = 2 ∨ (3 ≤ n ∧ n < 60) ∨ n = 60) with hc | hc | hc | hc
  · obtain ⟨d, ds, hd, hl, hdl⟩ := N.nx (by omega)
    have k12 := e_greatest (k := k+15) (n + 1) (by omega) (by omega) d ds hd (by omega)
    have k13 := e_below (k := k+18) hl
    simp only [Int.natCast_add, Int.natCast_one] at k12
    have i1 : ¬ (1 : Int) < (n : Int) := by omega
    have i2 : (n : Int) < 60 := by omega
    have i3 : ¬ (2 : Int) < (n : Int) := by omega
    simp -implicitDefEqProofs [-List.map_map, b4_law, f2, f3, f4, f6, f7, f8, e1, e2, hn, k1, k2, k3, k4, y1, l1, r1, l2, k5, k6, k8, k7, i1, i2, i3, k12, k13, r3, fa, nn, lo, e3, hf, k9, k10, k11, y2]
  · obtain ⟨d, ds, hd, hl, hdl⟩ := N.nx (by omega)
    have k12 := e_greatest (k := k+15) (n + 1) (by omega) (by omega) d ds hd (by omega)
    have k13 := e_below (k := k+18) hl
    have h0 := N.hd (by omega)
    simp only [Int.natCast_add, Int.natCast_one] at k12
    have i1 : (1 : Int) < (n : Int) := by omega
    have i2 : (n : Int) < 60 := by omega
    have i3 : ¬ (2 : Int) < (n : Int) := by omega
    simp -implicitDefEqProofs [-List.map_map, b4_law, f2, f3, f4, f6, f7, f8, e1, e2, hn, k1, k2, k3, k4, y1, l1, r1, l2, k5, k6, k8, k7, i1, i2, i3, r3, fa, nn, lo, e3, hf, k9, k10, k11, y2, k12, k13, h0]
  · obtain ⟨d, ds, hd, hl, hdl⟩ := N.nx (by omega)
    have k12 := e_greatest (k := k+15) (n + 1) (by omega) (by omega) d ds hd (by omega)
    have k13 := e_below (k := k+18) hl
    have h0 := N.hd (by omega)
    have k14 := e_below (k := k+18) (N.th (by omega))
    rw [w13] at k14
    simp only [Int.natCast_add, Int.natCast_one] at k12
    have i1 : (1 : Int) < (n : Int) := by omega
    have i2 : (n : Int) < 60 := by omega
    have i3 : (2 : Int) < (n : Int) := by omega
    simp -implicitDefEqProofs [-List.map_map, b4_law, f2, f3, f4, f6, f7, f8, e1, e2, hn, k1, k2, k3, k4, y1, l1, r1, l2, k5, k6, k8, k7, i1, i2, i3, r3, fa, nn, lo, e3, hf, k9, k10, k11, y2, k12, k13, k14, h0]
  · have h0 := N.hd (by omega)
    have k14 := e_below (k := k+18) (N.th (by omega))
    rw [w13] at k14
    have i1 : (1 : Int) < (n : Int) := by omega
    have i2 : ¬ (n : Int) < 60 := by omega
    have i3 : (2 : Int) < (n : Int) := by omega
    simp -implicitDefEqProofs [-List.map_map, b4_law, f2, f3, f4, f6, f7, f8, e1, e2, hn, k1, k2, k3, k4, y1, l1, r1, l2, k5, k6, k8, k7, i1, i2, i3, r3, fa, nn, lo, e3, hf, k9, k10, k11, y2, k14, h0]
end K63

/-! Q10: the law -/
namespace K63
open PV RQ
variable {k : Nat}
theorem laps (scr : T) (ns : List Int) : ∀ (xs : List Nat) (g : G), Keep scr ns g → ∃ g', loopF (bodyF d_gl (evF d_gl d_tb (k+19)) (.at 2) b4_law) (xs.map nT) g = some (.next, g') ∧ Keep scr ns g'
  | [], g, h => ⟨g, rfl, h⟩
  | x :: xs, g, h => by
    obtain ⟨g1, e1, h1⟩ := lap scr ns x g h
    obtain ⟨g2, e2, h2⟩ := laps scr ns xs g1 h1
    exact ⟨g2, by rw [List.map_cons, loopF_next e1]; exact e2, h2⟩
def gcv (n : Nat) : Q := match chances n with
  | some (c :: _) => c
  | _ => (0, 1)
def stv (n : Nat) : Nat := (bst n (0, 1)).getD 0
theorem gcv_all : (List.range' 1 5).map gcv = [(1, 1), (1, 2), (1, 2), (11, 24), (13, 30)] := by decide +kernel
theorem stv_all : [1, 2, 3, 4, 5, 6, 7, 8, 10].map stv = [1, 1, 2, 2, 3, 3, 3, 4, 4] := by decide +kernel
theorem num_at (n : Nat) (h1 : 1 ≤ n) (h2 : n ≤ 60) : ∃ s c bs, Num n s c bs := num_of n (by have := allN (n - 1) (by omega); rwa [show n - 1 + 1 = n by omega] at this)
theorem c5_all {g : G} (h : g[3]? = some .no) : forC (stepC d_gl (evF d_gl d_tb (k+4)) [3] (.at 3) [] c5_law) ((List.range' 1 5).map nT) g = some (((List.range' 1 5).map gcv).map qT, g) :=
  forC_one fun n hn => by
    have hn := List.mem_range'_1.mp hn
    obtain ⟨s, c, bs, N⟩ := num_at n (by omega) (by omega)
    have e := e_greatest (k := k) n (by omega) (by omega) c bs N.ch (by have := N.len; omega)
    have v : gcv n = c := by unfold gcv; rw [N.ch]
    have hl : 3 < g.length := (List.getElem?_eq_some_iff.mp h).1
    have k3 : ∀ s, (g.set 3 s)[3]? = some s := fun s => List.getElem?_set_self hl
    simp -implicitDefEqProofs [stepC_at, c5_law, h, k3, e, v]
theorem c6_all {g : G} (h : g[3]? = some .no) : forC (stepC d_gl (evF d_gl d_tb (k+3)) [3] (.at 3) [] c6_law) ([1, 2, 3, 4, 5, 6, 7, 8, 10].map nT) g = some (([1, 2, 3, 4, 5, 6, 7, 8, 10].map stv).map nT, g) :=
  forC_one fun n hn => by
    have hn : 1 ≤ n ∧ n ≤ 10 := by simp at hn; omega
    obtain ⟨s, c, bs, N⟩ := num_at n (by omega) (by omega)
    have e := e_start (k := k) n (by omega) (by omega) s N.b
    have v : stv n = s := by unfold stv; rw [N.b]; rfl
    have hl : 3 < g.length := (List.getElem?_eq_some_iff.mp h).1
    have k3 : ∀ s, (g.set 3 s)[3]? = some s := fun s => List.getElem?_set_self hl
    simp -implicitDefEqProofs [stepC_at, c6_law, h, k3, e, v]
theorem law_plain : ∀ ns : List Int, ns.length ≤ 63 → ∃ r, evF d_gl d_tb FUEL "law" [.frl (ns.map T.int)] = some r ∧ r.t = .bl true := by
  intro ns hn
  obtain ⟨p, e, hp⟩ := pen_ok (gl := d_gl) (tb := d_tb) (k := 18) rfl ns (by omega)
  obtain ⟨g', l, h⟩ := laps (k := 0) (.frl (ns.map T.int)) ns (List.range 3) [.sh (.frl (ns.map T.int)), .ow (penS ns p), .no, .no, .no, .no, .no, .no, .no, .no, .no]
    ⟨p, _, _, _, _, _, _, _, _, hp, rfl, rfl, rfl, rfl, rfl, rfl, rfl, rfl, rfl, rfl⟩
  have r := rng_nat 3 (by decide)
  rw [rng_map] at r
  have r2 := rng2_nat 1 6 (by decide) (by decide)
  obtain ⟨p2, s2, s3, s4, s5, s6, s7, s8, s9, hp2, rfl, f2, f3, c3, f4, f5, f6, f7, f8, f9⟩ := h
  refine ⟨⟨false, .bl true, []⟩, ?_, rfl⟩
  show evF d_gl d_tb (19 + 1) "law" _ = _
  rw [evF_at (d := d_law) rfl]
  have e' : evF d_gl d_tb 19 "_law_pen" [.frl (ns.map T.int)] = some ⟨true, penS ns p, []⟩ := e
  have l' : loopF (bodyF d_gl (evF d_gl d_tb 19) (.at 2) b4_law) ((List.range 3).map nT) _ = _ := l
  have r' : rngOf [.int 3] = some ((List.range 3).map nT) := r
  have r2' : rngOf [.int 1, .int 6] = some ((List.range' 1 5).map nT) := r2
  have f5' : ∀ {g : G}, g[3]? = some .no → forC (stepC d_gl (evF d_gl d_tb 19) [3] (.at 3) [] c5_law) ((List.range' 1 5).map nT) g = some ([T.tup [.int 1, .int 1], .tup [.int 1, .int 2], .tup [.int 1, .int 2], .tup [.int 11, .int 24], .tup [.int 13, .int 30]], g) := fun {g} hg => by
    have := c5_all (k := 15) hg
    rw [gcv_all] at this
    exact this
  have f6' : ∀ {g : G}, g[3]? = some .no → forC (stepC d_gl (evF d_gl d_tb 19) [3] (.at 3) [] c6_law) [T.int 1, .int 2, .int 3, .int 4, .int 5, .int 6, .int 7, .int 8, .int 10] g = some ([T.int 1, .int 1, .int 2, .int 2, .int 3, .int 3, .int 3, .int 4, .int 4], g) := fun {g} hg => by
    have := c6_all (k := 16) hg
    rw [stv_all] at this
    exact this
  have y1 := is_same (gl := d_gl) (tb := d_tb) rfl (v := .tup [T.tup [.int 1, .int 1], .tup [.int 1, .int 2], .tup [.int 1, .int 2], .tup [.int 11, .int 24], .tup [.int 13, .int 30]]) (w := .tup [T.tup [.int 1, .int 1], .tup [.int 1, .int 2], .tup [.int 1, .int 2], .tup [.int 11, .int 24], .tup [.int 13, .int 30]]) 2 16 (by decide) rfl
  have y2 := is_same (gl := d_gl) (tb := d_tb) rfl (v := .tup [T.int 1, .int 1, .int 2, .int 2, .int 3, .int 3, .int 3, .int 4, .int 4]) (w := .tup [T.int 1, .int 1, .int 2, .int 2, .int 3, .int 3, .int 3, .int 4, .int 4]) 1 17 (by decide) rfl
  have y1' : evF d_gl d_tb 19 "_law_is" _ = _ := y1
  have y2' : evF d_gl d_tb 19 "_law_is" _ = _ := y2
  generalize List.range 3 = xs at l' r'
  generalize (List.range' 1 5).map nT = ys at r2' f5'
  simp -implicitDefEqProofs [-List.map_map, d_law, evB, slots0, outs, e', r', l', r2', f5', f6', c3, y1', y2']
end K63

open PySem PySem.W PyProof.Rows
set_option maxHeartbeats 0 in
theorem PySem.Challenge.cw_whatfirst_k63_whole_best_starts_holds : PySem.Challenge.rw_whatfirst_k63_whole_best_starts.Holds := by
  w_on; o_law; k_head; (case hw => w_witness2)
  k_fill
  refine PV.walk (k := K63.FUEL) ⟨rfl, by decide, by decide⟩ K63.law_plain (l := PySem.Challenge.rw_whatfirst_k63_whole_best_starts) rfl rfl (fun w h Y => PySem.W.kIn_of Y) ?F
  case F =>
    intro w mg fa h KX G hmg
    refine' K63.all_mk KX G hmg ?aC_Flip ?a0 ?l0 ?c0 ?k0 ?a1 ?l1 ?c1 ?k1 ?a2 ?l2 ?c2 ?k2 ?a3 ?l3 ?c3 ?k3 ?a4 ?l4 ?c4 ?k4 ?a5 ?l5 ?c5 ?k5 ?a6 ?i6 ?l6 ?c6 ?k6 ?a7 ?l7 ?c7 ?k7 ?a8 ?l8 ?c8 ?k8 ?a9 ?l9 ?c9 ?k9 ?a10 ?l10 ?c10 ?k10 ?a11 ?l11 ?c11 ?k11 ?a12 ?l12 ?c12 ?k12 ?a13 ?l13 ?c13 ?k13 ?a14 ?l14 ?c14 ?k14 ?a15 ?l15 ?c15 ?k15 ?a16 ?l16 ?c16 ?k16 ?a17 ?l17 ?c17 ?k17 ?a18 ?l18 ?c18 ?k18 ?a19 ?l19 ?c19 ?k19 ?a20 ?l20 ?c20 ?k20 ?a21 ?l21 ?c21 ?k21 ?a22 ?l22 ?c22 ?k22 ?a23 ?l23 ?c23 ?k23 ?a24 ?l24 ?c24 ?k24 ?a25 ?l25 ?c25 ?k25 ?a26 ?l26 ?c26 ?k26 ?a27 ?l27 ?c27 ?k27 ?a28 ?l28 ?c28 ?k28 ?a29 ?l29 ?c29 ?k29 ?a30 ?l30 ?c30 ?k30 ?a31 ?l31 ?c31 ?k31 ?a32 ?l32 ?c32 ?k32 ?a33 ?l33 ?c33 ?k33 ?pg_Flip ?hd_Flip ?po_Flip ?sa_Flip ?mk_Flip ?kc_Flip ?ha_Flip ?hm_Flip ?lC_Flip ?mr_Flip ?n_Flip_place ?hn ?htk ?z_abs ?z_all ?z_bool ?z_int ?z_isinstance ?z_len ?z_list ?z_range ?z_sorted ?z_str ?z_tuple ?z_zip ?c_MOST_THINGS ?yg
    (case aC_Flip => k_is)
    (case a0 => k_is)
    (case l0 => k_is)
    (case c0 => k_is)
    (case k0 => k_is)
    (case a1 => k_is)
    (case l1 => k_is)
    (case c1 => k_is)
    (case k1 => k_is)
    (case a2 => k_is)
    (case l2 => k_is)
    (case c2 => k_is)
    (case k2 => k_is)
    (case a3 => k_is)
    (case l3 => k_is)
    (case c3 => k_is)
    (case k3 => k_is)
    (case a4 => k_is)
    (case l4 => k_is)
    (case c4 => k_is)
    (case k4 => k_is)
    (case a5 => k_is)
    (case l5 => k_is)
    (case c5 => k_is)
    (case k5 => k_is)
    (case a6 => k_is)
    (case i6 => k_is)
    (case l6 => k_is)
    (case c6 => k_is)
    (case k6 => k_is)
    (case a7 => k_is)
    (case l7 => k_is)
    (case c7 => k_is)
    (case k7 => k_is)
    (case a8 => k_is)
    (case l8 => k_is)
    (case c8 => k_is)
    (case k8 => k_is)
    (case a9 => k_is)
    (case l9 => k_is)
    (case c9 => k_is)
    (case k9 => k_is)
    (case a10 => k_is)
    (case l10 => k_is)
    (case c10 => k_is)
    (case k10 => k_is)
    (case a11 => k_is)
    (case l11 => k_is)
    (case c11 => k_is)
    (case k11 => k_is)
    (case a12 => k_is)
    (case l12 => k_is)
    (case c12 => k_is)
    (case k12 => k_is)
    (case a13 => k_is)
    (case l13 => k_is)
    (case c13 => k_is)
    (case k13 => k_is)
    (case a14 => k_is)
    (case l14 => k_is)
    (case c14 => k_is)
    (case k14 => k_is)
    (case a15 => k_is)
    (case l15 => k_is)
    (case c15 => k_is)
    (case k15 => k_is)
    (case a16 => k_is)
    (case l16 => k_is)
    (case c16 => k_is)
    (case k16 => k_is)
    (case a17 => k_is)
    (case l17 => k_is)
    (case c17 => k_is)
    (case k17 => k_is)
    (case a18 => k_is)
    (case l18 => k_is)
    (case c18 => k_is)
    (case k18 => k_is)
    (case a19 => k_is)
    (case l19 => k_is)
    (case c19 => k_is)
    (case k19 => k_is)
    (case a20 => k_is)
    (case l20 => k_is)
    (case c20 => k_is)
    (case k20 => k_is)
    (case a21 => k_is)
    (case l21 => k_is)
    (case c21 => k_is)
    (case k21 => k_is)
    (case a22 => k_is)
    (case l22 => k_is)
    (case c22 => k_is)
    (case k22 => k_is)
    (case a23 => k_is)
    (case l23 => k_is)
    (case c23 => k_is)
    (case k23 => k_is)
    (case a24 => k_is)
    (case l24 => k_is)
    (case c24 => k_is)
    (case k24 => k_is)
    (case a25 => k_is)
    (case l25 => k_is)
    (case c25 => k_is)
    (case k25 => k_is)
    (case a26 => k_is)
    (case l26 => k_is)
    (case c26 => k_is)
    (case k26 => k_is)
    (case a27 => k_is)
    (case l27 => k_is)
    (case c27 => k_is)
    (case k27 => k_is)
    (case a28 => k_is)
    (case l28 => k_is)
    (case c28 => k_is)
    (case k28 => k_is)
    (case a29 => k_is)
    (case l29 => k_is)
    (case c29 => k_is)
    (case k29 => k_is)
    (case a30 => k_is)
    (case l30 => k_is)
    (case c30 => k_is)
    (case k30 => k_is)
    (case a31 => k_is)
    (case l31 => k_is)
    (case c31 => k_is)
    (case k31 => k_is)
    (case a32 => k_is)
    (case l32 => k_is)
    (case c32 => k_is)
    (case k32 => k_is)
    (case a33 => k_is)
    (case l33 => k_is)
    (case c33 => k_is)
    (case k33 => k_is)
    (case pg_Flip => k_is)
    (case hd_Flip => k_is)
    (case po_Flip => k_is)
    (case sa_Flip => k_is)
    (case mk_Flip => k_is)
    (case kc_Flip => k_is)
    (case ha_Flip => k_is)
    (case hm_Flip => k_is)
    (case lC_Flip => k_is)
    (case mr_Flip => rfl)
    (case n_Flip_place => k_is)
    (case hn => k_is)
    (case htk => k_is)
    (case z_abs => k_is)
    (case z_all => k_is)
    (case z_bool => k_is)
    (case z_int => k_is)
    (case z_isinstance => k_is)
    (case z_len => k_is)
    (case z_list => k_is)
    (case z_range => k_is)
    (case z_sorted => k_is)
    (case z_str => k_is)
    (case z_tuple => k_is)
    (case z_zip => k_is)
    (case c_MOST_THINGS => k_is)
    (case yg => k_is)


