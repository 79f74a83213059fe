import PyProof.Rows.All
import Wide.All
import OpenK.AllK
import Wide.FinOn
import HandS.ForMost
import HandS.ForExc
import HandS.Zip
import HandS.SortInts
import HandS.TupAny
import HandS.TupLe
import HandS.TupLen
import HandS.Conv
import HandS.Walk
import HandS.Deep
import HandS.DictComp
import HandS.IsInst
import HandS.TupSets
import KE.KDictSum
import HandS.Small
import HandS.Style
import HandS.ExcOwn
import HandS.ExcIs
import HandS.Iter
import HandS.Defaults
import HandS.CallLocal
import KE.KStateDown
import Lean
import HandS.Ends
import HandS.Head0
import HandS.Head1
import HandS.Head2
import HandS.HeadEnd
import HandS.HeadHook1
import HandS.HeadHook2
import PySem.Challenge.RW_howeverlong_k01_nets_judged
set_option Elab.async false
set_option linter.all false
set_option maxRecDepth 100000
set_option maxHeartbeats 4000000
/-! F1: plain data, environments, results: what a def of the program does, told over plain data. -/
namespace G
open PySem L2
/-- plain data: a value with all that it holds -/
inductive D where
  | non | bl (b : Bool) | int (i : Int) | str (x : Str)
  | tup (xs : List D) | lst (xs : List D)
  | dct (t : Bool) (ks : List D) (vs : List D)
  | fn (k : Nat)
  | ins (c : Nat) (fs : List D)
instance : Inhabited D := ⟨.non⟩
mutual
/-- equality of data as Python has it (True is 1) -/
def D.eqb : D → D → Bool
  | .non, .non => true
  | .bl a, .bl b => a == b
  | .bl a, .int j => (if a then 1 else 0) == j
  | .int i, .bl b => i == (if b then 1 else 0)
  | .int i, .int j => i == j
  | .str x, .str y => x == y
  | .tup xs, .tup ys => D.eqbs xs ys
  | .lst xs, .lst ys => D.eqbs xs ys
  | _, _ => false
def D.eqbs : List D → List D → Bool
  | [], [] => true
  | x :: xs, y :: ys => D.eqb x y && D.eqbs xs ys
  | _, _ => false
end
mutual
/-- data that == may be asked of: no dict, no def, no instance within -/
def D.eqOk : D → Bool
  | .non => true
  | .bl _ => true
  | .int _ => true
  | .str _ => true
  | .tup xs => D.eqOks xs
  | .lst xs => D.eqOks xs
  | .dct _ _ _ => false
  | .fn _ => false
  | .ins _ _ => false
def D.eqOks : List D → Bool
  | [] => true
  | x :: xs => D.eqOk x && D.eqOks xs
end
mutual
def D.dep : D → Nat
  | .tup xs => D.deps xs + 1
  | .lst xs => D.deps xs + 1
  | .non => 0
  | .bl _ => 0
  | .int _ => 0
  | .str _ => 0
  | .dct _ _ _ => 0
  | .fn _ => 0
  | .ins _ _ => 0
def D.deps : List D → Nat
  | [] => 0
  | x :: xs => max (D.dep x) (D.deps xs)
end
/-- may be compared -/
def D.cmpOk (d : D) : Bool := d.eqOk && decide (d.dep ≤ 60)
mutual
def D.py : D → PyData
  | .non => .none
  | .bl b => .bool b
  | .int i => .int i
  | .str x => .str x
  | .tup xs => .tuple (D.pys xs)
  | .lst xs => .list (D.pys xs)
  | .dct _ _ _ => .dict []
  | .fn _ => .dict []
  | .ins _ _ => .dict []
def D.pys : List D → List PyData
  | [] => []
  | x :: xs => D.py x :: D.pys xs
end
/-- a list of ints -/
def D.ints : List D → Option (List Int)
  | [] => some []
  | .int i :: r => (D.ints r).map (i :: ·)
  | _ :: _ => none
def D.bls : List D → Option (List Bool)
  | [] => some []
  | .bl b :: r => (D.bls r).map (b :: ·)
  | _ :: _ => none
def D.strs : List D → Option (List Str)
  | [] => some []
  | .str b :: r => (D.strs r).map (b :: ·)
  | _ :: _ => none
/-- keys of dicts -/
def D.key : D → Option Key
  | .int i => some (.inl i)
  | .str x => some (.inr x)
  | _ => none
def D.keys : List D → Option (List Key)
  | [] => some []
  | x :: r => match D.key x, D.keys r with
    | some k, some ks => some (k :: ks)
    | _, _ => none
/-! ### slots, values, results -/
/-- shared (never changed from here on) | owned by its slot | lent by a caller -/
inductive Ow where | s | o | l
  deriving DecidableEq
structure Xc where
  c : Nat
  fs : List D
inductive En where
  | un
  | da (w : Ow) (d : D)
  | xc (x : Xc)
instance : Inhabited En := ⟨.un⟩
/-- a value: owned (new) or shared data; or the view of a slot that owns -/
inductive Vl where
  | da (o : Bool) (d : D)
  | vw (i : Nat)
inductive Rs (α : Type) where
  | ok (a : α) (ρ : List En)
  | ex (x : Xc) (ρ : List En)
  | no
def Rs.bd {α β : Type} (r : Rs α) (f : α → List En → Rs β) : Rs β := match r with
  | .ok a ρ => f a ρ
  | .ex x ρ => .ex x ρ
  | .no => .no
@[simp] theorem Rs.bd_ok {α β : Type} {a : α} {ρ : List En} {f : α → List En → Rs β} : (Rs.ok a ρ).bd f = f a ρ := rfl
@[simp] theorem Rs.bd_ex {α β : Type} {x : Xc} {ρ : List En} {f : α → List En → Rs β} : (Rs.ex x ρ : Rs α).bd f = .ex x ρ := rfl
@[simp] theorem Rs.bd_no {α β : Type} {f : α → List En → Rs β} : (Rs.no : Rs α).bd f = .no := rfl
theorem Rs.bd_eq_ok {α β : Type} {r : Rs α} {f : α → List En → Rs β} {b : β} {ρ : List En} (h : r.bd f = .ok b ρ) : ∃ a ρ1, r = .ok a ρ1 ∧ f a ρ1 = .ok b ρ := by
  cases r with
  | ok a ρ1 => exact ⟨a, ρ1, rfl, h⟩
  | ex x ρ1 => cases h
  | no => cases h
/-- a def's end: what it hands back (new or shared), the parameters' slots -/
inductive FR where
  | ok (o : Bool) (d : D) (fin : List En)
  | ex (x : Xc) (fin : List En)
  | no
def gt (ρ : List En) (i : Nat) : En := (ρ[i]?).getD .un
@[simp] theorem gt_zero {e : En} {ρ : List En} : gt (e :: ρ) 0 = e := rfl
@[simp] theorem gt_succ {e : En} {ρ : List En} {n : Nat} : gt (e :: ρ) (n + 1) = gt ρ n := rfl
/-- what a value is, read now -/
def rd (v : Vl) (ρ : List En) : D := match v with
  | .da _ d => d
  | .vw i => match gt ρ i with
    | .da _ d => d
    | .un => .non
    | .xc _ => .non
@[simp] theorem rd_da {o : Bool} {d : D} {ρ : List En} : rd (.da o d) ρ = d := rfl
/-- a value goes to where it stays: a slot's own object is shared from here on; a lent one can't be -/
def esc (v : Vl) (ρ : List En) : Rs (Bool × D) := match v with
  | .da o d => .ok (o, d) ρ
  | .vw i => match gt ρ i with
    | .da .o d => .ok (false, d) (ρ.set i (.da .s d))
    | .da .s d => .ok (false, d) ρ
    | _ => .no
@[simp] theorem esc_da {o : Bool} {d : D} {ρ : List En} : esc (.da o d) ρ = .ok (o, d) ρ := rfl
def escs : List Vl → List En → Rs (List D)
  | [], ρ => .ok [] ρ
  | v :: vs, ρ => (esc v ρ).bd fun d ρ1 => (escs vs ρ1).bd fun ds ρ2 => .ok (d.2 :: ds) ρ2
/-! ### the text, in short -/
inductive Op2 where | add | sub | mul | fdv | mod | pow | lt | le | gt | ge | eq | ne | isin | notin | isB | nisB
  deriving DecidableEq
inductive Op1 where | neg | not | isN | notN
  deriving DecidableEq
inductive Ty where | int | bool | tuple | str | list | dict
  deriving DecidableEq
inductive Bi where | len | abs | sum | max1 | max2 | min1 | min2 | any | all | sorted | tuple | list | int | lrng1 | lrng2
  deriving DecidableEq
inductive Mt where | index | count | get1 | get2
  deriving DecidableEq
mutual
inductive Ex where
  | non | bl (b : Bool) | int (i : Int) | str (x : Str)
  | var (i : Nat)
  | gc (n : Nat)
  | fnv (n : Nat)
  | tup (es : Exs)
  | lst (es : Exs)
  | dnew (t : Bool)
  | op2 (o : Op2) (a b : Ex)
  | op1 (o : Op1) (a : Ex)
  | and (a b : Ex)
  | or (a b : Ex)
  | chain (o p : Op2) (a b c : Ex)
  | ife (t : Te) (a b : Ex)
  | idx (a b : Ex)
  | sl (a : Ex) (lo hi : Ox)
  | rev (a : Ex)
  | call (f : Nat) (es : Exs)
  | callv (i : Nat) (es : Exs)
  | bi (b : Bi) (es : Exs)
  | lrg1 (a : Ex)
  | lrg2 (a b : Ex)
  | isi (t : Ty) (a : Ex)
  | isx (i c : Nat)
  | mth (m : Mt) (a : Ex) (es : Exs)
  | pop (i : Nat)
  | popAt (i : Nat) (a : Ex)
  | comp (vs : List Nat) (elt : Ex) (tg : Tg) (it : It) (ts : Tes)
  | dcomp (vs : List Nat) (k v : Ex) (tg : Tg) (it : It) (ts : Tes)
inductive Exs where
  | nil
  | cons (e : Ex) (es : Exs)
inductive Te where
  | val (e : Ex)
  | tru (e : Ex)
  | not (t : Te)
  | and (a b : Te)
  | or (a b : Te)
inductive Tes where
  | nil
  | one (t : Te)
inductive Ox where
  | no
  | so (e : Ex)
inductive It where
  | val (e : Ex)
  | rng1 (a : Ex)
  | rng2 (a b : Ex)
  | rng3 (a b c : Ex)
  | zip (a b : Ex)
  | enm (a : Ex)
  | keys (i : Nat)
inductive Tg where
  | v (i : Nat)
  | t (ts : Tgs)
  | ix (i : Nat) (e : Ex)
inductive Tgs where
  | nil
  | cons (t : Tg) (ts : Tgs)
end
mutual
inductive St where
  | asg (tg : Tg) (e : Ex)
  | par (is : List Nat) (es : Exs)
  | parT (ts : Tgs) (es : Exs)
  | app (i : Nat) (e : Ex)
  | ext (i : Nat) (e : Ex)
  | inc (i : Nat) (e : Ex)
  | exp (e : Ex)
  | ret (e : Ex)
  | retN
  | ife (t : Te) (a b : Sts)
  | for_ (tg : Tg) (it : It) (b : Sts)
  | whl (t : Te) (b : Sts)
  | rai (c : Nat) (es : Exs)
  | try1 (b : Sts) (c : Nat) (i : Option Nat) (h : Sts)
  | pas | brk | cnt
inductive Sts where
  | nil
  | cons (s : St) (ss : Sts)
end
/-! ### operations on data -/
def D.flat : D → Bool
  | .non => true
  | .bl _ => true
  | .int _ => true
  | .str _ => true
  | _ => false
def lexLt : List Int → List Int → Bool
  | [], [] => false
  | [], _ :: _ => true
  | _ :: _, [] => false
  | x :: xs, y :: ys => if x = y then lexLt xs ys else decide (x < y)
def D.lt : D → D → Option Bool
  | .int i, .int j => some (decide (i < j))
  | .str x, .str y => some (decide (x.cps.toList < y.cps.toList))
  | .tup xs, .tup ys => match D.ints xs, D.ints ys with
    | some is, some js => some (lexLt is js)
    | _, _ => none
  | _, _ => none
def D.sameKind : D → D → Bool
  | .dct _ _ _, _ => false
  | _, _ => true
/-- look a key up -/
def lookD : List D → List D → D → Option D
  | k :: ks, v :: vs, x => if D.eqb k x then some v else lookD ks vs x
  | _, _, _ => none
def hasD (ks : List D) (x : D) : Bool := ks.any fun k => D.eqb k x
def putD (ks vs : List D) (x y : D) : List D × List D :=
  if hasD ks x then (ks, List.zipWith (fun k v => if D.eqb k x then y else v) ks vs) else (ks ++ [x], vs ++ [y])
/-- the kind of a dict: keys ints and texts; keys flat tuples of these -/
def isKey : D → Bool
  | .int _ => true
  | .str _ => true
  | _ => false
def isKeyT : D → Bool
  | .tup xs => xs.all isKey
  | _ => false
def keyFits (t : Bool) (x : D) : Bool := if t then isKeyT x else isKey x
def two30 : Int := 1073741824
def two64 : Int := 18446744073709551616
def small64 (i : Int) : Bool := decide (i.natAbs < 18446744073709551616)
def szOk (n : Nat) : Bool := decide (n ≤ sizeLine)
/-- an operation's value: (new or not, the data) -/
def prim2 : Op2 → D → D → Option (Bool × D)
  | .add, .int i, .int j => some (false, .int (i + j))
  | .add, .tup xs, .tup ys => if szOk (xs.length + ys.length) then some (false, .tup (xs ++ ys)) else none
  | .add, .lst xs, .lst ys => if szOk (xs.length + ys.length) then some (true, .lst (xs ++ ys)) else none
  | .add, .str x, .str y => if szOk (x.length + y.length) && PyData.strOk (x ++ y) then some (false, .str (x ++ y)) else none
  | .sub, .int i, .int j => some (false, .int (i - j))
  | .mul, .int i, .int j => if small64 i || small64 j then some (false, .int (i * j)) else none
  | .fdv, .int i, .int j => if decide (0 < j) && decide (j < two30) then some (false, .int (i / j)) else none
  | .mod, .int i, .int j => if decide (0 < j) then some (false, .int (i % j)) else none
  | .pow, .int i, .int j => if decide (0 ≤ j) && decide (j ≤ 1000000) && small64 i then some (false, .int (i ^ j.toNat)) else none
  | .lt, a, b => (D.lt a b).map fun r => (false, .bl r)
  | .gt, .int i, .int j => some (false, .bl (decide (j < i)))
  | .le, .int i, .int j => some (false, .bl (decide (i ≤ j)))
  | .ge, .int i, .int j => some (false, .bl (decide (j ≤ i)))
  | .eq, a, b => if a.cmpOk && b.cmpOk then some (false, .bl (D.eqb a b)) else none
  | .ne, a, b => if a.cmpOk && b.cmpOk then some (false, .bl (!D.eqb a b)) else none
  | .isin, x, .lst ys => if x.cmpOk && (D.lst ys).cmpOk then some (false, .bl (ys.any fun y => D.eqb y x)) else none
  | .isin, x, .tup ys => if x.flat && ys.all D.flat then some (false, .bl (ys.any fun y => D.eqb y x)) else none
  | .isin, x, .dct t ks _ => if keyFits t x then some (false, .bl (hasD ks x)) else none
  | .isin, .str x, .str y => some (false, .bl (!(Builtin.Str.occurrences y x 0 y.length 1).isEmpty))
  | .notin, x, .lst ys => if x.cmpOk && (D.lst ys).cmpOk then some (false, .bl (!ys.any fun y => D.eqb y x)) else none
  | .notin, x, .tup ys => if x.flat && ys.all D.flat then some (false, .bl (!ys.any fun y => D.eqb y x)) else none
  | .notin, x, .dct t ks _ => if keyFits t x then some (false, .bl (!hasD ks x)) else none
  | .isB, .bl a, .bl b => some (false, .bl (decide (a = b)))
  | .nisB, .bl a, .bl b => some (false, .bl (!decide (a = b)))
  | _, _, _ => none
def prim1 : Op1 → D → Option D
  | .neg, .int i => some (.int (-i))
  | .not, .bl b => some (.bl (!b))
  | .isN, .non => some (.bl true)
  | .isN, .bl _ => some (.bl false)
  | .isN, .int _ => some (.bl false)
  | .isN, .str _ => some (.bl false)
  | .isN, .tup _ => some (.bl false)
  | .isN, .lst _ => some (.bl false)
  | .isN, .dct _ _ _ => some (.bl false)
  | .notN, .non => some (.bl false)
  | .notN, .bl _ => some (.bl true)
  | .notN, .int _ => some (.bl true)
  | .notN, .str _ => some (.bl true)
  | .notN, .tup _ => some (.bl true)
  | .notN, .lst _ => some (.bl true)
  | .notN, .dct _ _ _ => some (.bl true)
  | _, _ => none
/-- truth -/
def truD : D → Option Bool
  | .non => some false
  | .bl b => some b
  | .int i => some (i != 0)
  | .str x => if szOk x.length then some (x.length != 0) else none
  | .tup xs => some (!xs.isEmpty)
  | .lst xs => some (!xs.isEmpty)
  | _ => none
def isiD : Ty → D → Bool
  | .int, .int _ => true
  | .int, .bl _ => true
  | .bool, .bl _ => true
  | .tuple, .tup _ => true
  | .str, .str _ => true
  | .list, .lst _ => true
  | .dict, .dct _ _ _ => true
  | _, _ => false
def isiO (t : Ty) (d : D) : Option D := match d with
  | .fn _ => none
  | .ins _ _ => none
  | .dct true _ _ => none
  | d => some (.bl (isiD t d))
/-- an item by its place -/
def idxD : D → D → Option D
  | .tup xs, .int i => atI xs i
  | .lst xs, .int i => atI xs i
  | .dct t ks vs, x => if keyFits t x then lookD ks vs x else none
  | _, _ => none
def cutL (xs : List D) (lo hi : Option Int) : List D := (xs.drop (HT.sIx xs.length 0 lo)).take (HT.sIx xs.length xs.length hi - HT.sIx xs.length 0 lo)
def slD : D → Option Int → Option Int → Option (Bool × D)
  | .tup xs, lo, hi => some (false, .tup (cutL xs lo hi))
  | .lst xs, lo, hi => some (true, .lst (cutL xs lo hi))
  | _, _, _ => none
def revD : D → Option (Bool × D)
  | .lst xs => some (true, .lst xs.reverse)
  | _ => none
/-- range(a, b) -/
def rngL (a b : Int) : List D := (List.range (b - a).toNat).map fun (i : Nat) => D.int (a + i)
def rngOk (a b : Int) : Bool := decide (a.natAbs < 4611686018427387904) && decide (b.natAbs < 4611686018427387904)
/-- sorting: ints; texts; tuples of ints -/
def insI (x : Int) : List Int → List Int
  | [] => [x]
  | y :: ys => if x ≤ y then x :: y :: ys else y :: insI x ys
def sortI : List Int → List Int
  | [] => []
  | x :: xs => insI x (sortI xs)
def bd40 : Int := 1099511627776
def insL (x : List Int) : List (List Int) → List (List Int)
  | [] => [x]
  | y :: ys => if TS.code bd40 x ≤ TS.code bd40 y then x :: y :: ys else y :: insL x ys
def sortL : List (List Int) → List (List Int)
  | [] => []
  | x :: xs => insL x (sortL xs)
def D.tupsI : List D → Option (List (List Int))
  | [] => some []
  | .tup xs :: r => match D.ints xs, D.tupsI r with
    | some is, some rs => some (is :: rs)
    | _, _ => none
  | _ :: _ => none
def tupsOk (ls : List (List Int)) : Bool := match ls with
  | [] => true
  | l :: _ => decide (1 ≤ l.length) && ls.all fun m => decide (m.length = l.length) && m.all fun i => decide (0 ≤ i) && decide (i < bd40)
def sortD (xs : List D) : Option (List D) := match D.ints xs with
  | some is => some ((sortI is).map D.int)
  | none => match D.tupsI xs with
    | some ls => if tupsOk ls then some ((sortL ls).map fun is => D.tup (is.map D.int)) else none
    | none => none
def maxI (x : Int) (xs : List Int) : Int := xs.foldl (fun a b => if b > a then b else a) x
def minI (x : Int) (xs : List Int) : Int := xs.foldl (fun a b => if b < a then b else a) x
def biD : Bi → List D → Option (Bool × D)
  | .len, [.tup xs] => some (false, .int xs.length)
  | .len, [.lst xs] => some (false, .int xs.length)
  | .len, [.dct t ks _] => some (false, .int ks.length)
  | .len, [.str x] => if szOk x.length then some (false, .int x.length) else none
  | .abs, [.int i] => some (false, .int (if i < 0 then -i else i))
  | .sum, [.lst xs] => (D.ints xs).map fun is => (false, .int is.sum)
  | .max2, [.int i, .int j] => some (false, .int (if j > i then j else i))
  | .min2, [.int i, .int j] => some (false, .int (if j < i then j else i))
  | .max1, [.lst xs] => match D.ints xs with
    | some (i :: is) => some (false, .int (maxI i is))
    | _ => none
  | .min1, [.lst xs] => match D.ints xs with
    | some (i :: is) => some (false, .int (minI i is))
    | _ => none
  | .any, [.lst xs] => (D.bls xs).map fun bs => (false, .bl (bs.any id))
  | .all, [.lst xs] => (D.bls xs).map fun bs => (false, .bl (bs.all id))
  | .sorted, [.lst xs] => if decide (xs.length < 64) then (sortD xs).map fun ys => (true, .lst ys) else none
  | .sorted, [.dct true ks _] => if decide (ks.length < 64) then (match D.tupsI ks with
    | some ls => if tupsOk ls then some (true, .lst ((sortL ls).map fun is => D.tup (is.map D.int))) else none
    | none => none) else none
  | .tuple, [.lst xs] => some (false, .tup xs)
  | .tuple, [.tup xs] => some (false, .tup xs)
  | .list, [.lst xs] => some (true, .lst xs)
  | .list, [.tup xs] => some (true, .lst xs)
  | .int, [.int i] => some (false, .int i)
  | .int, [.bl b] => some (false, .int (if b then 1 else 0))
  | .lrng1, [.int b] => if rngOk 0 b && szOk b.toNat then some (true, .lst (rngL 0 b)) else none
  | .lrng2, [.int a, .int b] => if rngOk a b && szOk (b - a).toNat then some (true, .lst (rngL a b)) else none
  | _, _ => none
def findD (x : D) : List D → Nat → Option Nat
  | [], _ => none
  | y :: ys, k => if D.eqb y x then some k else findD x ys (k + 1)
def mtD : Mt → D → List D → Option (Bool × D)
  | .index, .lst xs, [x] => if x.cmpOk && (D.lst xs).cmpOk then (findD x xs 0).map fun (k : Nat) => (false, .int (k : Int)) else none
  | .get1, .dct t ks vs, [x] => if keyFits t x then some (false, (lookD ks vs x).getD .non) else none
  | .count, .lst xs, [x] => if x.cmpOk && (D.lst xs).cmpOk then some (false, .int (xs.countP fun y => D.eqb y x : Nat)) else none
  | .get2, .dct t ks vs, [x, y] => if keyFits t x && y.flat then some (false, (lookD ks vs x).getD y) else none
  | _, _, _ => none
def mtK : Mt → D → Bool
  | .index, .lst _ => true
  | .count, .lst _ => true
  | .get1, .dct _ _ _ => true
  | .get2, .dct _ _ _ => true
  | _, _ => false
/-! ### what it does -/
structure Gx where
  φ : Nat → List En → FR
  gc : Nat → D
  sub : Nat → Nat → Bool
  wh : Nat
/-- a comprehension's turns -/
def clp (f : D → List En → Rs (Option D)) : List D → List En → Rs (List D)
  | [], ρ => .ok [] ρ
  | x :: xs, ρ => (f x ρ).bd fun r ρ1 => (clp f xs ρ1).bd fun ys ρ2 => .ok (match r with
    | none => ys
    | some y => y :: ys) ρ2
/-- slots forgotten; as they were -/
def wp (vs : List Nat) (ρ : List En) : List En := vs.foldr (fun v ρ => ρ.set v .un) ρ
def bk (vs : List Nat) (ρ0 ρ : List En) : List En := vs.foldr (fun v ρ => ρ.set v (gt ρ0 v)) ρ
/-- a value's flag in a slot -/
def ow (o : Bool) : Ow := if o then .o else .s
/-- a slot is stored: a lent object stays -/
def stS (i : Nat) (o : Bool) (d : D) (ρ : List En) : Rs Unit := match gt ρ i with
  | .da .l _ => .no
  | _ => if i < ρ.length then .ok () (ρ.set i (.da (ow o) d)) else .no
/-- arguments: slots that own lend -/
def lend (ρ : List En) : List Vl → Option (List En)
  | [] => some []
  | .da o d :: r => (lend ρ r).map (.da (ow o) d :: ·)
  | .vw i :: r => match gt ρ i with
    | .da .s d => (lend ρ r).map (.da .s d :: ·)
    | .da _ d => (lend ρ r).map (.da .l d :: ·)
    | _ => none
def vws : List Vl → List Nat
  | [] => []
  | .da _ _ :: r => vws r
  | .vw i :: r => i :: vws r
/-- behind a call: what was lent is as it is now -/
def give : List Vl → List En → List En → Option (List En)
  | [], _, ρ => some ρ
  | .da _ _ :: r, _ :: fin, ρ => give r fin ρ
  | .vw i :: r, f :: fin, ρ => match gt ρ i, f with
    | .da .s _, _ => give r fin ρ
    | .da w _, .da .l d => give r fin (ρ.set i (.da w d))
    | _, _ => none
  | _, [], _ => none
def doCall (φ : List En → FR) (vs : List Vl) (ρ : List En) : Rs Vl :=
  if (vws vs).Nodup then match lend ρ vs with
    | none => .no
    | some as => match φ as with
      | .ok o d fin => match give vs fin ρ with
        | some ρ' => .ok (.da o d) ρ'
        | none => .no
      | .ex x fin => match give vs fin ρ with
        | some ρ' => .ex x ρ'
        | none => .no
      | .no => .no
  else .no
def lift2 (r : Option (Bool × D)) (ρ : List En) : Rs Vl := match r with
  | some (o, d) => .ok (.da o d) ρ
  | none => .no
@[simp] theorem lift2_some {o : Bool} {d : D} {ρ : List En} : lift2 (some (o, d)) ρ = .ok (.da o d) ρ := rfl
def lift1 (r : Option D) (ρ : List En) : Rs Vl := match r with
  | some d => .ok (.da false d) ρ
  | none => .no
@[simp] theorem lift1_some {d : D} {ρ : List En} : lift1 (some d) ρ = .ok (.da false d) ρ := rfl
def toB (d : D) (ρ : List En) : Rs Bool := match d with
  | .bl b => .ok b ρ
  | _ => .no
@[simp] theorem toB_bl {b : Bool} {ρ : List En} : toB (.bl b) ρ = .ok b ρ := rfl
def toI (d : D) (ρ : List En) : Rs Int := match d with
  | .int i => .ok i ρ
  | _ => .no
@[simp] theorem toI_int {i : Int} {ρ : List En} : toI (.int i) ρ = .ok i ρ := rfl
def toL (d : D) (ρ : List En) : Rs (List D) := match d with
  | .lst xs => .ok xs ρ
  | .tup xs => .ok xs ρ
  | _ => .no
def toSl (o : Option D) (ρ : List En) : Rs (Option Int) := match o with
  | none => .ok none ρ
  | some (.int i) => .ok (some i) ρ
  | some _ => .no
def guard' (b : Bool) {α : Type} (r : Rs α) : Rs α := if b then r else .no
/-- zip, as pairs -/
def zipD (xs ys : List D) : List D := List.zipWith (fun x y => D.tup [x, y]) xs ys
def enumD : List D → Nat → List D
  | [], _ => []
  | x :: xs, k => .tup [.int k, x] :: enumD xs (k + 1)
def rng3 (a b c : Int) : List D := (List.range ((b - a + c - (if 0 < c then 1 else -1)) / c).toNat).map fun (i : Nat) => D.int (a + i * c)
/-- both lists, or both tuples -/
def zipK : D → D → Option (List D)
  | .lst xs, .lst ys => some (zipD xs ys)
  | .tup xs, .tup ys => some (zipD xs ys)
  | _, _ => none
def tgn : Tgs → Nat
  | .nil => 0
  | .cons _ ts => tgn ts + 1
def isO (i : Nat) (ρ : List En) : Bool := match gt ρ i with
  | .da .o _ => true
  | .da .l _ => true
  | _ => false
/-- d[k] = v of a slot -/
def setI (i : Nat) (k : D) (y : D) (ρ : List En) : Rs Unit := match gt ρ i with
  | .da .o (.dct t ks vs) => if keyFits t k && decide (ks.length < sizeLine) then .ok () (ρ.set i (.da .o (.dct t (putD ks vs k y).1 (putD ks vs k y).2))) else .no
  | .da .l (.dct t ks vs) => if keyFits t k && decide (ks.length < sizeLine) then .ok () (ρ.set i (.da .l (.dct t (putD ks vs k y).1 (putD ks vs k y).2))) else .no
  | .da .o (.lst xs) => match k with
    | .int n => match ixN xs.length n with
      | some j => .ok () (ρ.set i (.da .o (.lst (xs.set j y))))
      | none => .no
    | _ => .no
  | .da .l (.lst xs) => match k with
    | .int n => match ixN xs.length n with
      | some j => .ok () (ρ.set i (.da .l (.lst (xs.set j y))))
      | none => .no
    | _ => .no
  | _ => .no
def popS (i : Nat) (ρ : List En) : Rs Vl := match gt ρ i with
  | .da .o (.lst xs) => match xs.getLast? with
    | some y => .ok (.da false y) (ρ.set i (.da .o (.lst xs.dropLast)))
    | none => .no
  | .da .l (.lst xs) => match xs.getLast? with
    | some y => .ok (.da false y) (ρ.set i (.da .l (.lst xs.dropLast)))
    | none => .no
  | _ => .no
def popI (i : Nat) (k : Int) (ρ : List En) : Rs Vl := match gt ρ i with
  | .da .o (.lst xs) => match ixN xs.length k with
    | some j => match xs[j]? with
      | some y => .ok (.da false y) (ρ.set i (.da .o (.lst (xs.eraseIdx j))))
      | none => .no
    | none => .no
  | .da .l (.lst xs) => match ixN xs.length k with
    | some j => match xs[j]? with
      | some y => .ok (.da false y) (ρ.set i (.da .l (.lst (xs.eraseIdx j))))
      | none => .no
    | none => .no
  | _ => .no
def small63 (k : Int) : Bool := decide (k.natAbs < 9223372036854775808)
def isL (i : Nat) (ρ : List En) : Bool := match gt ρ i with
  | .da .o (.lst _) => true
  | .da .l (.lst _) => true
  | _ => false
def appS (i : Nat) (ys : List D) (ρ : List En) : Rs Unit := match gt ρ i with
  | .da .o (.lst xs) => if szOk (xs.length + ys.length) then .ok () (ρ.set i (.da .o (.lst (xs ++ ys)))) else .no
  | .da .l (.lst xs) => if szOk (xs.length + ys.length) then .ok () (ρ.set i (.da .l (.lst (xs ++ ys)))) else .no
  | _ => .no
def varS (i : Nat) (ρ : List En) : Rs Vl := match gt ρ i with
  | .da .s d => .ok (.da false d) ρ
  | .da _ _ => .ok (.vw i) ρ
  | _ => .no
def isxS (sub : Nat → Nat → Bool) (i c : Nat) (ρ : List En) : Rs Vl := match gt ρ i with
  | .xc x => .ok (.da false (.bl (sub x.c c))) ρ
  | _ => .no
/-- the keys of a slot's own dict, shared from here on -/
def keysS (i : Nat) (ρ : List En) : Rs (List D) := match gt ρ i with
  | .da .o (.dct false ks vs) => match D.ints ks with
    | some _ => .ok ks (ρ.set i (.da .s (.dct false ks vs)))
    | none => .no
  | _ => .no
def intS (i : Nat) (ρ : List En) : Rs Int := match gt ρ i with
  | .da .s (.int a) => .ok a ρ
  | _ => .no
def fnS (i : Nat) (ρ : List En) : Rs Nat := match gt ρ i with
  | .da .s (.fn k) => .ok k ρ
  | _ => .no
def putAll (ks vs : List D) : List (D × D) → List D × List D
  | [] => (ks, vs)
  | (x, y) :: r => putAll (putD ks vs x y).1 (putD ks vs x y).2 r
def clp2 (f : D → List En → Rs (Option (D × D))) : List D → List En → Rs (List (D × D))
  | [], ρ => .ok [] ρ
  | x :: xs, ρ => (f x ρ).bd fun r ρ1 => (clp2 f xs ρ1).bd fun ys ρ2 => .ok (match r with
    | none => ys
    | some y => y :: ys) ρ2
/-- within a comprehension nothing is raised -/
def nox {α : Type} : Rs α → Rs α
  | .ok a ρ => .ok a ρ
  | _ => .no
@[simp] theorem nox_ok {α : Type} {a : α} {ρ : List En} : nox (.ok a ρ) = .ok a ρ := rfl
mutual
def ev (g : Gx) : Ex → List En → Rs Vl
  | .non, ρ => .ok (.da false .non) ρ
  | .bl b, ρ => .ok (.da false (.bl b)) ρ
  | .int i, ρ => .ok (.da false (.int i)) ρ
  | .str x, ρ => .ok (.da false (.str x)) ρ
  | .var i, ρ => varS i ρ
  | .gc n, ρ => .ok (.da false (g.gc n)) ρ
  | .fnv n, ρ => .ok (.da false (.fn n)) ρ
  | .tup es, ρ => (evs g es ρ).bd fun vs ρ1 => (escs vs ρ1).bd fun ds ρ2 => if szOk ds.length then .ok (.da false (.tup ds)) ρ2 else .no
  | .lst es, ρ => (evs g es ρ).bd fun vs ρ1 => (escs vs ρ1).bd fun ds ρ2 => if szOk ds.length then .ok (.da true (.lst ds)) ρ2 else .no
  | .dnew t, ρ => .ok (.da true (.dct t [] [])) ρ
  | .op2 o a b, ρ => (ev g a ρ).bd fun x ρ1 => (ev g b ρ1).bd fun y ρ2 => lift2 (prim2 o (rd x ρ2) (rd y ρ2)) ρ2
  | .op1 o a, ρ => (ev g a ρ).bd fun x ρ1 => lift1 (prim1 o (rd x ρ1)) ρ1
  | .and a b, ρ => (ev g a ρ).bd fun x ρ1 => (toB (rd x ρ1) ρ1).bd fun c ρ2 => if c then ev g b ρ2 else .ok (.da false (.bl false)) ρ2
  | .or a b, ρ => (ev g a ρ).bd fun x ρ1 => (toB (rd x ρ1) ρ1).bd fun c ρ2 => if c then .ok (.da false (.bl true)) ρ2 else ev g b ρ2
  | .chain o p a b c, ρ => (ev g a ρ).bd fun x ρ1 => (ev g b ρ1).bd fun y ρ2 => (lift2 (prim2 o (rd x ρ2) (rd y ρ2)) ρ2).bd fun t ρ3 => (toB (rd t ρ3) ρ3).bd fun k ρ4 =>
      if k then (ev g c ρ4).bd fun z ρ5 => lift2 (prim2 p (rd y ρ5) (rd z ρ5)) ρ5 else .ok (.da false (.bl false)) ρ4
  | .ife t a b, ρ => (et g t ρ).bd fun c ρ1 => if c then ev g a ρ1 else ev g b ρ1
  | .idx a b, ρ => (ev g a ρ).bd fun x ρ1 => (ev g b ρ1).bd fun y ρ2 => lift1 (idxD (rd x ρ2) (rd y ρ2)) ρ2
  | .sl a lo hi, ρ => (ev g a ρ).bd fun x ρ1 => (eo g lo ρ1).bd fun l ρ2 => (eo g hi ρ2).bd fun h ρ3 => lift2 (slD (rd x ρ3) l h) ρ3
  | .rev a, ρ => (ev g a ρ).bd fun x ρ1 => lift2 (revD (rd x ρ1)) ρ1
  | .call f es, ρ => (evs g es ρ).bd fun vs ρ1 => doCall (g.φ f) vs ρ1
  | .callv i es, ρ => (fnS i ρ).bd fun f ρ0 => (evs g es ρ0).bd fun vs ρ1 => doCall (g.φ f) vs ρ1
  | .bi b es, ρ => (evs g es ρ).bd fun vs ρ1 => lift2 (biD b (vs.map fun v => rd v ρ1)) ρ1
  | .lrg1 a, ρ => (ev g a ρ).bd fun x ρ1 => lift2 (biD .lrng1 [rd x ρ1]) ρ1
  | .lrg2 a b, ρ => (ev g a ρ).bd fun x ρ1 => (ev g b ρ1).bd fun y ρ2 => lift2 (biD .lrng2 [rd x ρ2, rd y ρ2]) ρ2
  | .isi t a, ρ => (ev g a ρ).bd fun x ρ1 => lift1 (isiO t (rd x ρ1)) ρ1
  | .isx i c, ρ => isxS g.sub i c ρ
  | .mth m a es, ρ => (ev g a ρ).bd fun x ρ1 => if mtK m (rd x ρ1) then (evs g es ρ1).bd fun vs ρ2 => lift2 (mtD m (rd x ρ2) (vs.map fun v => rd v ρ2)) ρ2 else .no
  | .pop i, ρ => popS i ρ
  | .popAt i a, ρ => if isL i ρ then (ev g a ρ).bd fun x ρ1 => (toI (rd x ρ1) ρ1).bd fun k ρ2 => if small63 k then popI i k ρ2 else .no else .no
  | .comp vs elt tg it ts, ρ => (ei g it ρ).bd fun xs ρ1 => (nox (clp (fun x ρ2 => (bind g tg x ρ2).bd fun _ ρ3 => (ets g ts ρ3).bd fun c ρ4 =>
      if c then (ev g elt ρ4).bd fun y ρ5 => (esc y ρ5).bd fun d ρ6 => .ok (some d.2) (wp vs ρ6) else .ok none (wp vs ρ4)) xs (wp vs ρ1))).bd fun ys ρ7 =>
      if szOk ys.length then .ok (.da true (.lst ys)) (bk vs ρ1 ρ7) else .no
  | .dcomp vs k v tg it ts, ρ => (ei g it ρ).bd fun xs ρ1 => (nox (clp2 (fun x ρ2 => (bind g tg x ρ2).bd fun _ ρ3 => (ets g ts ρ3).bd fun c ρ4 =>
      if c then (ev g k ρ4).bd fun y ρ5 => (ev g v ρ5).bd fun z ρ6 => (esc y ρ6).bd fun d ρ7 => (esc z ρ7).bd fun e ρ8 => .ok (some (d.2, e.2)) (wp vs ρ8) else .ok none (wp vs ρ4)) xs (wp vs ρ1))).bd fun ys ρ7 =>
      if szOk ys.length && ys.all (fun p => isKey p.1) then .ok (.da true (.dct false (putAll [] [] ys).1 (putAll [] [] ys).2)) (bk vs ρ1 ρ7) else .no
def evs (g : Gx) : Exs → List En → Rs (List Vl)
  | .nil, ρ => .ok [] ρ
  | .cons e es, ρ => (ev g e ρ).bd fun v ρ1 => (evs g es ρ1).bd fun vs ρ2 => .ok (v :: vs) ρ2
def et (g : Gx) : Te → List En → Rs Bool
  | .val e, ρ => (ev g e ρ).bd fun x ρ1 => toB (rd x ρ1) ρ1
  | .tru e, ρ => (ev g e ρ).bd fun x ρ1 => match truD (rd x ρ1) with
    | some b => .ok b ρ1
    | none => .no
  | .not t, ρ => (et g t ρ).bd fun b ρ1 => .ok (!b) ρ1
  | .and a b, ρ => (et g a ρ).bd fun c ρ1 => if c then et g b ρ1 else .ok false ρ1
  | .or a b, ρ => (et g a ρ).bd fun c ρ1 => if c then .ok true ρ1 else et g b ρ1
def ets (g : Gx) : Tes → List En → Rs Bool
  | .nil, ρ => .ok true ρ
  | .one t, ρ => et g t ρ
def eo (g : Gx) : Ox → List En → Rs (Option Int)
  | .no, ρ => .ok none ρ
  | .so e, ρ => (ev g e ρ).bd fun x ρ1 => (toI (rd x ρ1) ρ1).bd fun i ρ2 => .ok (some i) ρ2
def ei (g : Gx) : It → List En → Rs (List D)
  | .val e, ρ => (ev g e ρ).bd fun x ρ1 => (esc x ρ1).bd fun d ρ2 => toL d.2 ρ2
  | .rng1 a, ρ => (ev g a ρ).bd fun x ρ1 => (toI (rd x ρ1) ρ1).bd fun n ρ2 => if rngOk 0 n then .ok (rngL 0 n) ρ2 else .no
  | .rng2 a b, ρ => (ev g a ρ).bd fun x ρ1 => (ev g b ρ1).bd fun y ρ2 => (toI (rd x ρ2) ρ2).bd fun n ρ3 => (toI (rd y ρ3) ρ3).bd fun m ρ4 => if rngOk n m then .ok (rngL n m) ρ4 else .no
  | .rng3 a b c, ρ => (ev g a ρ).bd fun x ρ1 => (ev g b ρ1).bd fun y ρ2 => (ev g c ρ2).bd fun z ρ3 => (toI (rd x ρ3) ρ3).bd fun n ρ4 => (toI (rd y ρ4) ρ4).bd fun m ρ5 => (toI (rd z ρ5) ρ5).bd fun k ρ6 =>
      if rngOk n m && (k == -1) then .ok (rng3 n m k) ρ6 else .no
  | .zip a b, ρ => (ev g a ρ).bd fun x ρ1 => (ev g b ρ1).bd fun y ρ2 => (esc x ρ2).bd fun c ρ3 => (esc y ρ3).bd fun d ρ4 => match zipK c.2 d.2 with
    | some xs => .ok xs ρ4
    | none => .no
  | .enm a, ρ => (ev g a ρ).bd fun x ρ1 => (esc x ρ1).bd fun d ρ2 => match d.2 with
    | .lst xs => .ok (enumD xs 0) ρ2
    | .tup xs => .ok (enumD xs 0) ρ2
    | _ => .no
  | .keys i, ρ => keysS i ρ
def bind (g : Gx) : Tg → D → List En → Rs Unit
  | .v i, d, ρ => stS i false d ρ
  | .t ts, d, ρ => match d with
    | .tup xs => if xs.length = tgn ts then binds g ts xs ρ else .no
    | _ => .no
  | .ix i e, d, ρ => if isO i ρ then (ev g e ρ).bd fun k ρ1 => (esc k ρ1).bd fun k ρ2 => setI i k.2 d ρ2 else .no
def binds (g : Gx) : Tgs → List D → List En → Rs Unit
  | .nil, [], ρ => .ok () ρ
  | .cons t ts, x :: xs, ρ => (bind g t x ρ).bd fun _ ρ1 => binds g ts xs ρ1
  | .nil, _ :: _, _ => .no
  | .cons _ _, [], _ => .no
end
/-- how a block goes on -/
inductive Fl where
  | nx
  | rt (o : Bool) (d : D)
  | bk
  | ct
/-- a for's turns -/
def flp (f : D → List En → Rs Fl) : List D → List En → Rs Fl
  | [], ρ => .ok .nx ρ
  | x :: xs, ρ => (f x ρ).bd fun r ρ1 => match r with
    | .nx => flp f xs ρ1
    | .ct => flp f xs ρ1
    | .bk => .ok .nx ρ1
    | .rt o d => .ok (.rt o d) ρ1
/-- a while's turns -/
def wlp (t : List En → Rs Bool) (f : List En → Rs Fl) : Nat → List En → Rs Fl
  | 0, _ => .no
  | n + 1, ρ => (t ρ).bd fun c ρ1 => if c then (f ρ1).bd fun r ρ2 => match r with
      | .nx => wlp t f n ρ2
      | .ct => wlp t f n ρ2
      | .bk => .ok .nx ρ2
      | .rt o d => .ok (.rt o d) ρ2
    else .ok .nx ρ1
/-- what is handed back: a slot's own object goes with it -/
def retV (v : Vl) (ρ : List En) : Rs Fl := match v with
  | .da o d => .ok (.rt o d) ρ
  | .vw i => match gt ρ i with
    | .da .o d => .ok (.rt true d) (ρ.set i .un)
    | .da .s d => .ok (.rt false d) ρ
    | _ => .no
@[simp] theorem retV_da {o : Bool} {d : D} {ρ : List En} : retV (.da o d) ρ = .ok (.rt o d) ρ := rfl
def stAll : List Nat → List (Bool × D) → List En → Rs Unit
  | [], [], ρ => .ok () ρ
  | i :: is, x :: xs, ρ => (stS i x.1 x.2 ρ).bd fun _ ρ1 => stAll is xs ρ1
  | _, _, _ => .no
def escO : List Vl → List En → Rs (List (Bool × D))
  | [], ρ => .ok [] ρ
  | v :: vs, ρ => (esc v ρ).bd fun d ρ1 => (escO vs ρ1).bd fun ds ρ2 => .ok (d :: ds) ρ2
def catch' (r : Rs Fl) (sub : Nat → Nat → Bool) (c : Nat) (h : Xc → List En → Rs Fl) : Rs Fl := match r with
  | .ex x ρ => if sub x.c c then h x ρ else .ex x ρ
  | .ok a ρ => .ok a ρ
  | .no => .no
def noXc (ρ : List En) : Bool := ρ.all fun e => match e with
  | .xc _ => false
  | _ => true
mutual
def es (g : Gx) : St → List En → Rs Fl
  | .asg (.v i) e, ρ => (ev g e ρ).bd fun v ρ1 => (esc v ρ1).bd fun d ρ2 => (stS i d.1 d.2 ρ2).bd fun _ ρ3 => .ok .nx ρ3
  | .asg tg e, ρ => (ev g e ρ).bd fun v ρ1 => (esc v ρ1).bd fun d ρ2 => (bind g tg d.2 ρ2).bd fun _ ρ3 => .ok .nx ρ3
  | .par is xs, ρ => (evs g xs ρ).bd fun vs ρ1 => (escO vs ρ1).bd fun ds ρ2 => (stAll is ds ρ2).bd fun _ ρ3 => .ok .nx ρ3
  | .parT ts xs, ρ => (evs g xs ρ).bd fun vs ρ1 => (escs vs ρ1).bd fun ds ρ2 => (binds g ts ds ρ2).bd fun _ ρ3 => .ok .nx ρ3
  | .app i e, ρ => if isL i ρ then (ev g e ρ).bd fun v ρ1 => (esc v ρ1).bd fun d ρ2 => (appS i [d.2] ρ2).bd fun _ ρ3 => .ok .nx ρ3 else .no
  | .ext i e, ρ => if isL i ρ then (ev g e ρ).bd fun v ρ1 => (match v with
    | .da true (.lst ys) => (appS i ys ρ1).bd fun _ ρ3 => .ok .nx ρ3
    | _ => .no) else .no
  | .inc i e, ρ => (intS i ρ).bd fun a ρ0 => (ev g e ρ0).bd fun x ρ1 => (toI (rd x ρ1) ρ1).bd fun b ρ2 => (stS i false (.int (a + b)) ρ2).bd fun _ ρ3 => .ok .nx ρ3
  | .exp e, ρ => (ev g e ρ).bd fun _ ρ1 => .ok .nx ρ1
  | .ret e, ρ => (ev g e ρ).bd fun v ρ1 => retV v ρ1
  | .retN, ρ => .ok (.rt false .non) ρ
  | .ife t a b, ρ => (et g t ρ).bd fun c ρ1 => if c then ess g a ρ1 else ess g b ρ1
  | .for_ tg it b, ρ => (ei g it ρ).bd fun xs ρ1 => flp (fun x ρ2 => (bind g tg x ρ2).bd fun _ ρ3 => ess g b ρ3) xs ρ1
  | .whl t b, ρ => wlp (et g t) (ess g b) g.wh ρ
  | .rai c xs, ρ => (evs g xs ρ).bd fun vs ρ1 => (escs vs ρ1).bd fun ds ρ2 => .ex ⟨c, ds⟩ ρ2
  | .try1 b c none h, ρ => catch' (ess g b ρ) g.sub c fun _ ρ1 => ess g h ρ1
  | .try1 b c (some i) h, ρ => catch' (ess g b ρ) g.sub c fun x ρ1 => match gt ρ1 i with
    | .da .l _ => .no
    | _ => (nox (ess g h (ρ1.set i (.xc x)))).bd fun r ρ2 => if noXc (ρ2.set i .un) then .ok r (ρ2.set i .un) else .no
  | .pas, ρ => .ok .nx ρ
  | .brk, ρ => .ok .bk ρ
  | .cnt, ρ => .ok .ct ρ
def ess (g : Gx) : Sts → List En → Rs Fl
  | .nil, ρ => .ok .nx ρ
  | .cons s ss, ρ => (es g s ρ).bd fun r ρ1 => match r with
    | .nx => ess g ss ρ1
    | .rt o d => .ok (.rt o d) ρ1
    | .bk => .ok .bk ρ1
    | .ct => .ok .ct ρ1
end
/-- a def: how many parameters, slots; its body -/
structure Df where
  np : Nat
  nn : Nat
  body : Sts
def fins (n : Nat) (ρ : List En) : List En := (List.range n).map (gt ρ)
def endD (n : Nat) : Rs Fl → FR
  | .ok (.rt o d) ρ => .ok o d (fins n ρ)
  | .ok .nx ρ => .ok false .non (fins n ρ)
  | .ok .bk _ => .no
  | .ok .ct _ => .no
  | .ex x ρ => .ex x (fins n ρ)
  | .no => .no
def runD (g : Gx) (f : Df) (as : List En) : FR :=
  if as.length = f.np then endD f.np (ess g f.body (as ++ List.replicate (f.nn - f.np) .un)) else .no
/-- calls n deep -/
def phi (fs : Nat → Option Df) (gc : Nat → D) (sub : Nat → Nat → Bool) (wh : Nat) : Nat → Nat → List En → FR
  | 0, _, _ => .no
  | n + 1, k, as => match fs k with
    | some f => runD ⟨phi fs gc sub wh n, gc, sub, wh⟩ f as
    | none => .no
end G
set_option maxHeartbeats 4000000
/-! F2: how data stands in the heap; what a step keeps. -/
namespace G
open PySem L2
def kD : Key → D
  | .inl i => .int i
  | .inr x => .str x
def kT (k : List Key) : D := .tup (k.map kD)
/-- the tables of the text: what the module has written, the defs' addresses, the classes' -/
structure Tb where
  K : PySem.W.Frag
  fa : Nat → Option Addr
  ca : Nat → Option Addr
  /-- an address holds an exception (in an except suite) -/
  px : Addr → Xc → Prop
mutual
/-- shared data: Z tells the lists and dicts that are never changed from here on -/
inductive Rp (T : Tb) (Z : Addr → Prop) (H : Hp) : V → D → Prop
  | non : Rp T Z H .non .non
  | bl (b : Bool) : Rp T Z H (.bl b) (.bl b)
  | int (i : Int) : Rp T Z H (.int i) (.int i)
  | str {x : Str} : PyData.strOk x = true → Rp T Z H (.str x) (.str x)
  | tup {a : Addr} {vs : List V} {ds : List D} : H a = some (.tup vs) → RpL T Z H vs ds → Rp T Z H (.ref a) (.tup ds)
  | lst {a : Addr} {vs : List V} {ds : List D} : Z a → Rd H a (.lst vs) → RpL T Z H vs ds → Rp T Z H (.ref a) (.lst ds)
  | dK {a : Addr} {kvs : List (Key × V)} {ds : List D} : Z a → Rd H a (.dK kvs) → RpL T Z H (kvs.map (·.2)) ds → Rp T Z H (.ref a) (.dct false (kvs.map fun kv => kD kv.1) ds)
  | dT {a : Addr} {kvs : List (List Key × V)} {ds : List D} : Z a → Rd H a (.dT kvs) → RpL T Z H (kvs.map (·.2)) ds → Rp T Z H (.ref a) (.dct true (kvs.map fun kv => kT kv.1) ds)
  | fn {k : Nat} {a : Addr} : T.fa k = some a → Rp T Z H (.ref a) (.fn k)
inductive RpL (T : Tb) (Z : Addr → Prop) (H : Hp) : List V → List D → Prop
  | nil : RpL T Z H [] []
  | cons {v : V} {vs : List V} {d : D} {ds : List D} : Rp T Z H v d → RpL T Z H vs ds → RpL T Z H (v :: vs) (d :: ds)
end
/-- what may be owned -/
def Mo : HO → Prop
  | .lst _ => True
  | .dK _ => True
  | .dT _ => True
  | _ => False
/-- an owned object: its items are shared -/
inductive Rw (T : Tb) (Z : Addr → Prop) (H : Hp) : Addr → D → Prop
  | lst {a : Addr} {vs : List V} {ds : List D} : H a = some (.lst vs) → RpL T Z H vs ds → Rw T Z H a (.lst ds)
  | dK {a : Addr} {kvs : List (Key × V)} {ds : List D} : H a = some (.dK kvs) → RpL T Z H (kvs.map (·.2)) ds → Rw T Z H a (.dct false (kvs.map fun kv => kD kv.1) ds)
  | dT {a : Addr} {kvs : List (List Key × V)} {ds : List D} : H a = some (.dT kvs) → RpL T Z H (kvs.map (·.2)) ds → Rw T Z H a (.dct true (kvs.map fun kv => kT kv.1) ds)
def gv (σ : L2.St) (i : Nat) : Option V := (σ[i]?).join
/-- a slot that owns -/
def Own (ρ : List En) (σ : L2.St) (i : Nat) (a : Addr) : Prop := (∃ w d, gt ρ i = .da w d ∧ w ≠ .s) ∧ gv σ i = some (.ref a)
def Os (ρ : List En) (σ : L2.St) (a : Addr) : Prop := ∃ i, Own ρ σ i a
def SlR (T : Tb) (Z : Addr → Prop) (H : Hp) (o : Option V) : En → Prop
  | .un => True
  | .da .s d => ∃ v, o = some v ∧ Rp T Z H v d
  | .da .o d => ∃ a, o = some (.ref a) ∧ Rw T Z H a d
  | .da .l d => ∃ a, o = some (.ref a) ∧ Rw T Z H a d
  | .xc x => ∃ a, o = some (.ref a) ∧ T.px a x
structure Rel (T : Tb) (Z : Addr → Prop) (ρ : List En) (σ : L2.St) (H : Hp) : Prop where
  len : ρ.length = σ.length
  sl : ∀ i, SlR T Z H (gv σ i) (gt ρ i)
  sep : ∀ i j a, Own ρ σ i a → Own ρ σ j a → i = j
  zs : ∀ a, Os ρ σ a → ¬ Z a
  zd : ∀ a, Z a → H a ≠ none
section
variable {T : Tb} {Z Z' Z'' : Addr → Prop} {H H' H'' : Hp} {ρ ρ' ρ'' : List En} {σ σ' σ'' : L2.St}
theorem Rw.obj {a : Addr} {d : D} (h : Rw T Z H a d) : ∃ o, H a = some o ∧ Mo o := by
  cases h with
  | lst h _ => exact ⟨_, h, trivial⟩
  | dK h _ => exact ⟨_, h, trivial⟩
  | dT h _ => exact ⟨_, h, trivial⟩
theorem SlR.own {o : Option V} {w : Ow} {d : D} (h : SlR T Z H o (.da w d)) (hw : w ≠ .s) : ∃ a, o = some (.ref a) ∧ Rw T Z H a d := by
  cases w with
  | s => exact absurd rfl hw
  | o => exact h
  | l => exact h
theorem Rel.ownR (r : Rel T Z ρ σ H) {i : Nat} {a : Addr} (h : Own ρ σ i a) : ∃ d, Rw T Z H a d := by
  obtain ⟨⟨w, d, e, hw⟩, hv⟩ := h
  have q := r.sl i
  rw [e] at q
  obtain ⟨b, e2, rw'⟩ := q.own hw
  rw [hv] at e2
  cases e2
  exact ⟨d, rw'⟩
theorem Rel.osH (r : Rel T Z ρ σ H) {a : Addr} (h : Os ρ σ a) : ∃ o, H a = some o ∧ Mo o := by
  obtain ⟨i, h⟩ := h
  obtain ⟨d, q⟩ := r.ownR h
  exact q.obj
theorem Rel.osN (r : Rel T Z ρ σ H) {a : Addr} (h : H a = none) : ¬ Os ρ σ a := fun q => by
  obtain ⟨o, e, _⟩ := r.osH q
  rw [h] at e
  cases e
/-- what lies outside is as it was; the frozen stay frozen -/
structure Stay (Z Z' : Addr → Prop) (H H' : Hp) (O : Addr → Prop) : Prop where
  keep : ∀ a o, H a = some o → ¬ O a → H' a = some o
  zm : ∀ a, Z a → Z' a
mutual
theorem Rp.stay {O : Addr → Prop} (s : Stay Z Z' H H' O) (hz : ∀ a, O a → ¬ Z a) (ho : ∀ a, O a → ∃ o, H a = some o ∧ Mo o) : ∀ {v : V} {d : D}, Rp T Z H v d → Rp T Z' H' v d
  | _, _, .non => .non
  | _, _, .bl b => .bl b
  | _, _, .int i => .int i
  | _, _, .str h => .str h
  | _, _, .tup h1 h2 => by
    refine .tup (s.keep _ _ h1 fun q => ?_) (RpL.stay s hz ho h2)
    obtain ⟨o, e, z⟩ := ho _ q
    rw [h1] at e
    cases e
    exact z
  | _, _, .lst z h1 h2 => .lst (s.zm _ z) (Rd.stay' s (fun q => hz _ q z) h1) (RpL.stay s hz ho h2)
  | _, _, .dK z h1 h2 => .dK (s.zm _ z) (Rd.stay' s (fun q => hz _ q z) h1) (RpL.stay s hz ho h2)
  | _, _, .dT z h1 h2 => .dT (s.zm _ z) (Rd.stay' s (fun q => hz _ q z) h1) (RpL.stay s hz ho h2)
  | _, _, .fn h => .fn h
theorem RpL.stay {O : Addr → Prop} (s : Stay Z Z' H H' O) (hz : ∀ a, O a → ¬ Z a) (ho : ∀ a, O a → ∃ o, H a = some o ∧ Mo o) : ∀ {vs : List V} {ds : List D}, RpL T Z H vs ds → RpL T Z' H' vs ds
  | _, _, .nil => .nil
  | _, _, .cons h1 h2 => .cons (Rp.stay s hz ho h1) (RpL.stay s hz ho h2)
theorem Rd.stay' {O : Addr → Prop} {a : Addr} {u : HO} (s : Stay Z Z' H H' O) (hz : ¬ O a) (h : Rd H a u) : Rd H' a u := by
  rcases h with h | ⟨o, h⟩
  · exact .inl (s.keep _ _ h hz)
  · exact .inr ⟨o, s.keep _ _ h hz⟩
end
theorem Rw.stay {O : Addr → Prop} (s : Stay Z Z' H H' O) (hz : ∀ a, O a → ¬ Z a) (ho : ∀ a, O a → ∃ o, H a = some o ∧ Mo o) {a : Addr} {d : D} (h : Rw T Z H a d) (na : ¬ O a) : Rw T Z' H' a d := by
  cases h with
  | lst h1 h2 => exact .lst (s.keep _ _ h1 na) (RpL.stay s hz ho h2)
  | dK h1 h2 => exact .dK (s.keep _ _ h1 na) (RpL.stay s hz ho h2)
  | dT h1 h2 => exact .dT (s.keep _ _ h1 na) (RpL.stay s hz ho h2)
/-- a step of the heap: what is not owned is kept; what is frozen stays; owned roots behind it were owned or are new -/
structure Nx (Z : Addr → Prop) (H : Hp) (O : Addr → Prop) (Z' : Addr → Prop) (H' : Hp) (O' : Addr → Prop) : Prop where
  keep : ∀ a o, H a = some o → ¬ O a → H' a = some o
  dom : ∀ a, H' a = none → H a = none
  zm : ∀ a, Z a → Z' a
  zn : ∀ a, Z' a → Z a ∨ O a ∨ H a = none
  on : ∀ a, O' a → O a ∨ H a = none
/-- what may be owned roots -/
def Ok (Z : Addr → Prop) (H : Hp) (O : Addr → Prop) : Prop := ∀ a, O a → ¬ Z a ∧ ∃ o, H a = some o ∧ Mo o
section
variable {O O' O'' P : Addr → Prop}
theorem Rel.okO (r : Rel T Z ρ σ H) : Ok Z H (Os ρ σ) := fun a h => ⟨r.zs a h, r.osH h⟩
theorem Nx.stays (n : Nx Z H O Z' H' O') : Stay Z Z' H H' O := ⟨n.keep, n.zm⟩
theorem Nx.refl : Nx Z H O Z H O := ⟨fun _ _ h _ => h, fun _ h => h, fun _ h => h, fun _ h => .inl h, fun _ h => .inl h⟩
theorem Nx.weak (a : Nx Z H O Z' H' O') (h : ∀ x, O'' x → O' x) : Nx Z H O Z' H' O'' := ⟨a.keep, a.dom, a.zm, a.zn, fun x q => a.on x (h x q)⟩
theorem Nx.pre (a : Nx Z H O Z' H' O') (h : ∀ x, O x → P x) : Nx Z H P Z' H' O' :=
  ⟨fun x o e n => a.keep x o e fun q => n (h x q), a.dom, a.zm, fun x q => (a.zn x q).imp id (Or.imp (h x) id), fun x q => (a.on x q).imp (h x) id⟩
theorem Nx.trans (a : Nx Z H O Z' H' O') (b : Nx Z' H' O' Z'' H'' O'') : Nx Z H O Z'' H'' O'' := by
  refine ⟨fun x o h q => ?_, fun x h => a.dom x (b.dom x h), fun x h => b.zm x (a.zm x h), fun x h => ?_, fun x h => ?_⟩
  · refine b.keep x o (a.keep x o h q) fun z => ?_
    rcases a.on x z with z | z
    · exact q z
    · rw [h] at z
      cases z
  · rcases b.zn x h with h | h | h
    · exact a.zn x h
    · rcases a.on x h with h | h
      · exact .inr (.inl h)
      · exact .inr (.inr h)
    · exact .inr (.inr (a.dom x h))
  · rcases b.on x h with h | h
    · exact a.on x h
    · exact .inr (a.dom x h)
/-- .. beside things that wait -/
theorem Nx.frame (a : Nx Z H O Z' H' O') : Nx Z H (fun x => O x ∨ P x) Z' H' (fun x => O' x ∨ P x) :=
  ⟨fun x o e n => a.keep x o e fun q => n (.inl q), a.dom, a.zm, fun x q => (a.zn x q).imp id (Or.imp .inl id), fun x q => q.elim (fun q => (a.on x q).imp .inl id) fun q => .inl (.inr q)⟩
theorem Nx.rp (n : Nx Z H O Z' H' O') (ok : Ok Z H O) {v : V} {d : D} (h : Rp T Z H v d) : Rp T Z' H' v d := Rp.stay n.stays (fun a q => (ok a q).1) (fun a q => (ok a q).2) h
theorem Nx.rpL (n : Nx Z H O Z' H' O') (ok : Ok Z H O) {v : List V} {d : List D} (h : RpL T Z H v d) : RpL T Z' H' v d := RpL.stay n.stays (fun a q => (ok a q).1) (fun a q => (ok a q).2) h
theorem Nx.rw (n : Nx Z H O Z' H' O') (ok : Ok Z H O) {a : Addr} {d : D} (h : Rw T Z H a d) (na : ¬ O a) : Rw T Z' H' a d := Rw.stay n.stays (fun a q => (ok a q).1) (fun a q => (ok a q).2) h na
/-- a new object is laid -/
theorem Nx.new {p : Addr} {o : HO} (hp : H p = none) (h : ∀ a, O' a → O a ∨ a = p) : Nx Z H O Z (upd H p o) O' :=
  ⟨fun a u h _ => by rw [upd_ne (ne_of_none h hp)]; exact h, fun a h => by
    by_cases e : a = p
    · rw [e]; exact hp
    · rw [upd_ne e] at h; exact h, fun _ z => z, fun _ z => .inl z, fun a z => (h a z).imp id fun z => by rw [z]; exact hp⟩
/-- things that wait are frozen -/
theorem Nx.freeze (h : ∀ a, P a → O a) (h2 : ∀ a, O' a → O a) : Nx Z H O (fun a => Z a ∨ P a) H O' :=
  ⟨fun _ _ h _ => h, fun _ h => h, fun _ h => .inl h, fun a q => q.elim .inl fun q => .inr (.inl (h a q)), fun a q => .inl (h2 a q)⟩
end
/-- a new object laid: the state is the same -/
theorem stay_new {p : Addr} {o : HO} (hp : H p = none) : Stay Z Z H (upd H p o) (fun _ => False) :=
  ⟨fun a u h _ => by rw [upd_ne (ne_of_none h hp)]; exact h, fun _ h => h⟩
theorem Rp.new {p : Addr} {o : HO} (hp : H p = none) {v : V} {d : D} (h : Rp T Z H v d) : Rp T Z (upd H p o) v d := Rp.stay (stay_new hp) (fun _ z => z.elim) (fun _ z => z.elim) h
theorem RpL.new {p : Addr} {o : HO} (hp : H p = none) {v : List V} {d : List D} (h : RpL T Z H v d) : RpL T Z (upd H p o) v d := RpL.stay (stay_new hp) (fun _ z => z.elim) (fun _ z => z.elim) h
theorem Rw.new {p a : Addr} {o : HO} (hp : H p = none) {d : D} (h : Rw T Z H a d) : Rw T Z (upd H p o) a d := Rw.stay (stay_new hp) (fun _ z => z.elim) (fun _ z => z.elim) h (fun z => z)
theorem SlR.stay {O : Addr → Prop} (s : Stay Z Z' H H' O) (hz : ∀ a, O a → ¬ Z a) (ho : ∀ a, O a → ∃ o, H a = some o ∧ Mo o) {o : Option V} {e : En} (h : SlR T Z H o e)
    (na : ∀ w d a, e = .da w d → w ≠ .s → o = some (.ref a) → ¬ O a) : SlR T Z' H' o e := by
  cases e with
  | un => trivial
  | xc x => exact h
  | da w d =>
    cases w with
    | s =>
      obtain ⟨v, e, q⟩ := h
      exact ⟨v, e, Rp.stay s hz ho q⟩
    | o =>
      obtain ⟨a, e, q⟩ := h
      exact ⟨a, e, Rw.stay s hz ho q (na _ _ a rfl (by decide) e)⟩
    | l =>
      obtain ⟨a, e, q⟩ := h
      exact ⟨a, e, Rw.stay s hz ho q (na _ _ a rfl (by decide) e)⟩
theorem Rel.new {p : Addr} {o : HO} (r : Rel T Z ρ σ H) (hp : H p = none) : Rel T Z ρ σ (upd H p o) :=
  ⟨r.len, fun i => (r.sl i).stay (stay_new hp) (fun _ z => z.elim) (fun _ z => z.elim) (fun _ _ _ _ _ _ z => z), r.sep, r.zs, fun a z h => by
    by_cases e : a = p
    · rw [e, upd_same] at h
      cases h
    · rw [upd_ne e] at h
      exact r.zd a z h⟩
/-! ### values -/
def VlR (T : Tb) (Z : Addr → Prop) (H : Hp) (σ : L2.St) (ρ : List En) (v : V) : Vl → Prop
  | .da false d => Rp T Z H v d
  | .da true d => ∃ a, v = .ref a ∧ Rw T Z H a d ∧ ¬ Z a ∧ ¬ Os ρ σ a
  | .vw i => gv σ i = some v ∧ ∃ w d, gt ρ i = .da w d
def Ov (v : V) (x : Vl) (a : Addr) : Prop := (∃ d, x = .da true d) ∧ v = .ref a
/-- a step of an expression: the slots' values stay, those that have data have data still, lent ones are lent still -/
structure Go (T : Tb) (P : Addr → Prop) (Z : Addr → Prop) (H : Hp) (ρ : List En) (σ : L2.St) (Z' : Addr → Prop) (H' : Hp) (ρ' : List En) (E : Addr → Prop) : Prop where
  nx : Nx Z H (fun a => Os ρ σ a ∨ P a) Z' H' (fun a => Os ρ' σ a ∨ E a)
  rel : Rel T Z' ρ' σ H'
  df : ∀ i w d, gt ρ i = .da w d → ∃ w' d', gt ρ' i = .da w' d' ∧ (w = .l → w' = .l) ∧ (w' = .l → w = .l)
abbrev N0 : Addr → Prop := fun _ => False
theorem Ok.or {O P : Addr → Prop} (a : Ok Z H O) (b : Ok Z H P) : Ok Z H (fun x => O x ∨ P x) := fun x h => h.elim (a x) (b x)
theorem Ok.n0 : Ok Z H N0 := fun _ z => z.elim
theorem Rel.ok0 (r : Rel T Z ρ σ H) : Ok Z H (fun a => Os ρ σ a ∨ N0 a) := r.okO.or Ok.n0
theorem Go.refl (r : Rel T Z ρ σ H) : Go T N0 Z H ρ σ Z H ρ N0 := ⟨Nx.refl, r, fun _ w d h => ⟨w, d, h, id, id⟩⟩
theorem Go.reflP {P : Addr → Prop} (r : Rel T Z ρ σ H) : Go T P Z H ρ σ Z H ρ P := ⟨Nx.refl, r, fun _ w d h => ⟨w, d, h, id, id⟩⟩
theorem Go.trans {P E F : Addr → Prop} (a : Go T P Z H ρ σ Z' H' ρ' E) (b : Go T E Z' H' ρ' σ Z'' H'' ρ'' F) : Go T P Z H ρ σ Z'' H'' ρ'' F :=
  ⟨a.nx.trans b.nx, b.rel, fun i w d h => by
    obtain ⟨w1, d1, h1, l1, l2⟩ := a.df i w d h
    obtain ⟨w2, d2, h2, l3, l4⟩ := b.df i w1 d1 h1
    exact ⟨w2, d2, h2, fun q => l3 (l1 q), fun q => l2 (l4 q)⟩⟩
theorem Go.weak {P E F : Addr → Prop} (a : Go T P Z H ρ σ Z' H' ρ' E) (h : ∀ x, F x → E x) : Go T P Z H ρ σ Z' H' ρ' F := ⟨a.nx.weak fun x q => q.imp id (h x), a.rel, a.df⟩
theorem Go.pre {P Q E : Addr → Prop} (a : Go T P Z H ρ σ Z' H' ρ' E) (h : ∀ x, P x → Q x) : Go T Q Z H ρ σ Z' H' ρ' E := ⟨a.nx.pre fun x q => q.imp id (h x), a.rel, a.df⟩
/-- .. beside things that wait -/
theorem Go.frame {P E F : Addr → Prop} (a : Go T P Z H ρ σ Z' H' ρ' E) : Go T (fun x => P x ∨ F x) Z H ρ σ Z' H' ρ' (fun x => E x ∨ F x) :=
  ⟨((a.nx.frame (P := F)).pre fun x q => q.elim (fun q => q.imp id .inl) fun q => .inr (.inr q)).weak fun x q => q.elim (fun q => .inl (.inl q)) fun q => q.elim (fun q => .inl (.inr q)) .inr, a.rel, a.df⟩
theorem Go.new {p : Addr} {o : HO} {P E : Addr → Prop} (r : Rel T Z ρ σ H) (hp : H p = none) (hE : ∀ a, E a → a = p) : Go T P Z H ρ σ Z (upd H p o) ρ E :=
  ⟨Nx.new hp fun a q => q.elim (fun q => .inl (.inl q)) fun q => .inr (hE a q), r.new hp, fun _ w d h => ⟨w, d, h, id, id⟩⟩
/-- a value is as it was behind a step that does not touch it -/
theorem VlR.step {P E : Addr → Prop} (n : Go T P Z H ρ σ Z' H' ρ' E) (ok : Ok Z H fun a => Os ρ σ a ∨ P a) {v : V} {x : Vl} (h : VlR T Z H σ ρ v x) (hn : ∀ a, Ov v x a → ¬ P a) : VlR T Z' H' σ ρ' v x := by
  cases x with
  | vw i =>
    obtain ⟨h1, w, d, h2⟩ := h
    obtain ⟨w', d', h3, _⟩ := n.df i w d h2
    exact ⟨h1, w', d', h3⟩
  | da o d =>
    cases o with
    | false => exact n.nx.rp ok h
    | true =>
      obtain ⟨a, e, q, nz, no⟩ := h
      have na : ¬ (Os ρ σ a ∨ P a) := fun z => z.elim no (hn a ⟨⟨d, rfl⟩, e⟩)
      obtain ⟨u, hu, _⟩ := q.obj
      refine ⟨a, e, n.nx.rw ok q na, fun z => ?_, fun z => ?_⟩
      · rcases n.nx.zn a z with z | z | z
        · exact nz z
        · exact na z
        · rw [hu] at z; cases z
      · rcases n.nx.on a (.inl z) with z | z
        · exact na z
        · rw [hu] at z; cases z
theorem VlR.okV {v : V} {x : Vl} (h : VlR T Z H σ ρ v x) : Ok Z H (Ov v x) := fun a ⟨⟨d, e⟩, e2⟩ => by
  subst e
  obtain ⟨b, e3, q, nz, _⟩ := h
  rw [e2] at e3
  cases e3
  exact ⟨nz, q.obj⟩
theorem VlR.nos {v : V} {x : Vl} (h : VlR T Z H σ ρ v x) : ∀ a, Ov v x a → ¬ Os ρ σ a := fun a ⟨⟨d, e⟩, e2⟩ => by
  subst e
  obtain ⟨b, e3, q, _, no⟩ := h
  rw [e2] at e3
  cases e3
  exact no
/-- what is read: shared data, or an object that stands owned -/
def Vw (T : Tb) (Z : Addr → Prop) (H : Hp) (v : V) (d : D) : Prop := Rp T Z H v d ∨ ∃ a, v = .ref a ∧ Rw T Z H a d
theorem VlR.vw (r : Rel T Z ρ σ H) {v : V} {x : Vl} (h : VlR T Z H σ ρ v x) : Vw T Z H v (rd x ρ) := by
  cases x with
  | vw i =>
    obtain ⟨h1, w, d, h2⟩ := h
    have q := r.sl i
    rw [h1, h2] at q
    have e : rd (.vw i) ρ = d := by
      show (match gt ρ i with | .da _ d => d | .un => D.non | .xc _ => D.non) = d
      rw [h2]
    rw [e]
    cases w with
    | s =>
      obtain ⟨v', e', q⟩ := q
      cases e'
      exact .inl q
    | o =>
      obtain ⟨a, e', q⟩ := q
      cases e'
      exact .inr ⟨a, rfl, q⟩
    | l =>
      obtain ⟨a, e', q⟩ := q
      cases e'
      exact .inr ⟨a, rfl, q⟩
  | da o d =>
    cases o with
    | false => exact .inl h
    | true =>
      obtain ⟨a, e, q, _⟩ := h
      exact .inr ⟨a, e, q⟩
end
end G
set_option maxHeartbeats 4000000
/-! F3: readings by an evaluator's answer; operations. -/
namespace G
open PySem L2
/-- an exception: its class; no fields -/
def XcR (T : Tb) (c : Value) (d : Option Addr) (x : Xc) : Prop := x.fs = [] ∧ d = none ∧ ∃ a, T.ca x.c = some a ∧ c = .ref a
section
variable {T : Tb} {W : WX} {Z Z' : Addr → Prop} {H H' : Hp} {ρ ρ' : List En} {σ σ' : L2.St} {P : Addr → Prop}
/-- what an answer asks: R how the value is told, O what it owns -/
def Pst {α β : Type} (T : Tb) (W : WX) (R : (Addr → Prop) → Hp → L2.St → List En → β → α → Prop) (O : β → α → Addr → Prop) (P Z : Addr → Prop) (H : Hp) (ρ : List En) (σ : L2.St) (res : Rs α) (Q : β → Hp → Prop) : Prop :=
  match res with
  | .ok x ρ' => ∀ v H' Z', Go T P Z H ρ σ Z' H' ρ' (O v x) → R Z' H' σ ρ' v x → Q v H'
  | .ex x ρ' => ∀ c d H' Z', Go T P Z H ρ σ Z' H' ρ' N0 → XcR T c d x → W c d σ H'
  | .no => False
def OB {α β : Type} : β → α → Addr → Prop := fun _ _ => N0
def RB : (Addr → Prop) → Hp → L2.St → List En → Bool → Bool → Prop := fun _ _ _ _ a b => a = b
/-- one part, then the rest -/
theorem Pst.bind {α α' β β' : Type} {R : (Addr → Prop) → Hp → L2.St → List En → β → α → Prop} {O : β → α → Addr → Prop} {R' : (Addr → Prop) → Hp → L2.St → List En → β' → α' → Prop} {O' : β' → α' → Addr → Prop}
    {r : Rs α} {k : α → List En → Rs α'} {Q : β' → Hp → Prop} (h : Pst T W R' O' P Z H ρ σ (r.bd k) Q)
    {Q1 : β → Hp → Prop} (hQ : ∀ v H1 x ρ1 Z1, r = .ok x ρ1 → Go T N0 Z H ρ σ Z1 H1 ρ1 (O v x) → R Z1 H1 σ ρ1 v x → Pst T W R' O' (fun a => O v x a ∨ P a) Z1 H1 ρ1 σ (k x ρ1) Q → Q1 v H1) :
    Pst T W R O N0 Z H ρ σ r Q1 := by
  cases r with
  | no => exact h
  | ex x ρ1 =>
    intro c d H1 Z1 g hx
    exact h c d H1 Z1 (g.pre fun _ z => z.elim) hx
  | ok x ρ1 =>
    intro v H1 Z1 g hv
    refine hQ v H1 x ρ1 Z1 rfl g hv ?_
    have h : Pst T W R' O' P Z H ρ σ (k x ρ1) Q := h
    have gp : Go T P Z H ρ σ Z1 H1 ρ1 (fun a => O v x a ∨ P a) := ((g.frame (F := P)).pre fun a z => z.elim (fun z => z.elim) id)
    revert h
    cases k x ρ1 with
    | no => exact id
    | ex y ρ2 =>
      intro h c d H2 Z2 g2 hx
      exact h c d H2 Z2 (gp.trans g2) hx
    | ok y ρ2 =>
      intro h w H2 Z2 g2 hw
      exact h w H2 Z2 (gp.trans g2) hw
theorem Pst.mono {α β : Type} {R : (Addr → Prop) → Hp → L2.St → List En → β → α → Prop} {O : β → α → Addr → Prop} {r : Rs α} {Q Q' : β → Hp → Prop} (h : Pst T W R O P Z H ρ σ r Q) (hQ : ∀ v H', Q v H' → Q' v H') : Pst T W R O P Z H ρ σ r Q' := by
  cases r with
  | no => exact h
  | ex x ρ1 => exact h
  | ok x ρ1 => exact fun v H1 Z1 g hv => hQ _ _ (h v H1 Z1 g hv)
/-- an expression's reading -/
def Sp (T : Tb) (W : WX) (f : List En → Rs Vl) : TE := fun σ H Q => ∃ Z ρ, Rel T Z ρ σ H ∧ Pst T W (VlR T) Ov N0 Z H ρ σ (f ρ) Q
def SpT (T : Tb) (W : WX) (f : List En → Rs Bool) : TT := fun σ H Q => ∃ Z ρ, Rel T Z ρ σ H ∧ Pst T W RB OB N0 Z H ρ σ (f ρ) Q
/-- arguments: values, those owned apart -/
inductive VlsR (T : Tb) (Z : Addr → Prop) (H : Hp) (σ : L2.St) (ρ : List En) : List V → List Vl → Prop
  | nil : VlsR T Z H σ ρ [] []
  | cons {v : V} {x : Vl} {vs : List V} {xs : List Vl} : VlR T Z H σ ρ v x → VlsR T Z H σ ρ vs xs → (∀ a, Ov v x a → ∀ w y, (w, y) ∈ vs.zip xs → ¬ Ov w y a) → VlsR T Z H σ ρ (v :: vs) (x :: xs)
def Ovs (vs : List V) (xs : List Vl) (a : Addr) : Prop := ∃ w y, (w, y) ∈ vs.zip xs ∧ Ov w y a
def SpA (T : Tb) (W : WX) (f : List En → Rs (List Vl)) : TA := fun σ H Q => ∃ Z ρ, Rel T Z ρ σ H ∧ Pst T W (VlsR T) Ovs N0 Z H ρ σ (f ρ) Q
theorem PE.imp {X : Cx} {e : Expr} {t t' : TE} (h : PE X e t) (i : ∀ σ H Q, t' σ H Q → t σ H Q) : PE X e t' := ⟨fun pins s σ H Q I q => h.run pins s σ H Q I (i σ H Q q)⟩
theorem PT.imp {X : Cx} {e : Expr} {t t' : TT} (h : PT X e t) (i : ∀ σ H Q, t' σ H Q → t σ H Q) : PT X e t' := ⟨fun pins s σ H Q I q => h.run pins s σ H Q I (i σ H Q q)⟩
theorem PW.imp {X : Cx} {e : Expr} {t t' : TT} (h : PW X e t) (i : ∀ σ H Q, t' σ H Q → t σ H Q) : PW X e t' := ⟨fun wh pins s σ H Q I q => h.run wh pins s σ H Q I (i σ H Q q)⟩
theorem PA.imp {X : Cx} {e : List Expr} {t t' : TA} (h : PA X e t) (i : ∀ σ H Q, t' σ H Q → t σ H Q) : PA X e t' := ⟨fun pos pins s σ H Q I q => h.run pos pins s σ H Q I (i σ H Q q)⟩
/-! ### a value at the end -/
theorem Pst.val {α β : Type} {R : (Addr → Prop) → Hp → L2.St → List En → β → α → Prop} {O : β → α → Addr → Prop} {x : α} {Q : β → Hp → Prop} (r : Rel T Z ρ σ H) (h : Pst T W R O P Z H ρ σ (.ok x ρ) Q) {v : β} (hv : R Z H σ ρ v x) (hO : ∀ a, O v x a → P a) : Q v H :=
  h v H Z ((Go.reflP r).weak hO) hv
/-- a shared value -/
theorem Pst.shr {d : D} {Q : VK} (r : Rel T Z ρ σ H) (h : Pst T W (VlR T) Ov P Z H ρ σ (.ok (.da false d) ρ) Q) {v : V} (hv : Rp T Z H v d) : Q v H :=
  Pst.val r h (v := v) (show VlR T Z H σ ρ v (.da false d) from hv) fun a z => by
    obtain ⟨⟨d', e⟩, _⟩ := z
    cases e
/-- a new list -/
theorem Rw.newL {p : Addr} {vs : List V} {ds : List D} (hp : H p = none) (h : RpL T Z H vs ds) : Rw T Z (upd H p (.lst vs)) p (.lst ds) := .lst upd_same (h.new hp)
theorem Pst.newO {d : D} {Q : VK} (r : Rel T Z ρ σ H) (h : Pst T W (VlR T) Ov P Z H ρ σ (.ok (.da true d) ρ) Q) {p : Addr} {o : HO} (hp : H p = none) (hv : Rw T Z (upd H p o) p d) : Q (.ref p) (upd H p o) := by
  refine h (.ref p) (upd H p o) Z (Go.new r hp fun a z => ?_) ⟨p, rfl, hv, fun z => r.zd p z hp, r.osN hp⟩
  obtain ⟨_, e⟩ := z
  exact (V.ref.inj e).symm
theorem Pst.newT {ds : List D} {Q : VK} (r : Rel T Z ρ σ H) (h : Pst T W (VlR T) Ov P Z H ρ σ (.ok (.da false (.tup ds)) ρ) Q) {p : Addr} {vs : List V} (hp : H p = none) (hv : RpL T Z H vs ds) : Q (.ref p) (upd H p (.tup vs)) := by
  refine h (.ref p) (upd H p (.tup vs)) Z (Go.new r hp fun a z => ?_) (show Rp T Z (upd H p (.tup vs)) (.ref p) (.tup ds) from .tup upd_same (hv.new hp))
  obtain ⟨⟨d', e⟩, _⟩ := z
  cases e
/-! ### what is read -/
theorem Vw.int {v : V} {i : Int} (h : Vw T Z H v (.int i)) : v = .int i := by
  rcases h with h | ⟨a, _, h⟩
  · cases h; rfl
  · cases h
theorem Vw.bl {v : V} {b : Bool} (h : Vw T Z H v (.bl b)) : v = .bl b := by
  rcases h with h | ⟨a, _, h⟩
  · cases h; rfl
  · cases h
theorem Vw.str {v : V} {x : Str} (h : Vw T Z H v (.str x)) : v = .str x := by
  rcases h with h | ⟨a, _, h⟩
  · cases h; rfl
  · cases h
theorem Vw.non {v : V} (h : Vw T Z H v .non) : v = .non := by
  rcases h with h | ⟨a, _, h⟩
  · cases h; rfl
  · cases h
theorem Vw.tup {v : V} {ds : List D} (h : Vw T Z H v (.tup ds)) : ∃ a vs, v = .ref a ∧ H a = some (.tup vs) ∧ RpL T Z H vs ds := by
  rcases h with h | ⟨a, _, h⟩
  · cases h with
    | tup h1 h2 => exact ⟨_, _, rfl, h1, h2⟩
  · cases h
theorem Vw.lst {v : V} {ds : List D} (h : Vw T Z H v (.lst ds)) : ∃ a vs, v = .ref a ∧ Rd H a (.lst vs) ∧ RpL T Z H vs ds := by
  rcases h with h | ⟨a, e, h⟩
  · cases h with
    | lst _ h1 h2 => exact ⟨_, _, rfl, h1, h2⟩
  · cases h with
    | lst h1 h2 => exact ⟨_, _, e, .inl h1, h2⟩
theorem Vw.dK {v : V} {ks vs : List D} (h : Vw T Z H v (.dct false ks vs)) : ∃ (a : Addr) (kvs : List (Key × V)), v = .ref a ∧ Rd H a (.dK kvs) ∧ ks = kvs.map (fun kv => kD kv.1) ∧ RpL T Z H (kvs.map (·.2)) vs := by
  rcases h with h | ⟨a, e, h⟩
  · cases h with
    | dK _ h1 h2 => exact ⟨_, _, rfl, h1, rfl, h2⟩
  · cases h with
    | dK h1 h2 => exact ⟨_, _, e, .inl h1, rfl, h2⟩
theorem Vw.dT {v : V} {ks vs : List D} (h : Vw T Z H v (.dct true ks vs)) : ∃ (a : Addr) (kvs : List (List Key × V)), v = .ref a ∧ Rd H a (.dT kvs) ∧ ks = kvs.map (fun kv => kT kv.1) ∧ RpL T Z H (kvs.map (·.2)) vs := by
  rcases h with h | ⟨a, e, h⟩
  · cases h with
    | dT _ h1 h2 => exact ⟨_, _, rfl, h1, rfl, h2⟩
  · cases h with
    | dT h1 h2 => exact ⟨_, _, e, .inl h1, rfl, h2⟩
theorem RpL.length : ∀ {vs : List V} {ds : List D}, RpL T Z H vs ds → vs.length = ds.length
  | _, _, .nil => rfl
  | _, _, .cons _ h => congrArg (· + 1) (RpL.length h)
theorem RpL.get : ∀ {vs : List V} {ds : List D} {i : Nat} {d : D}, RpL T Z H vs ds → ds[i]? = some d → ∃ v, vs[i]? = some v ∧ Rp T Z H v d
  | _, _, _, _, .nil, e => by simp at e
  | _, _, 0, _, .cons h _, e => by simp at e; subst e; exact ⟨_, rfl, h⟩
  | _, _, i + 1, d, .cons _ h, e => by
    obtain ⟨v, h1, h2⟩ := RpL.get (i := i) (d := d) h (by simpa using e)
    exact ⟨v, by simpa using h1, h2⟩
theorem RpL.app : ∀ {vs ws : List V} {ds es : List D}, RpL T Z H vs ds → RpL T Z H ws es → RpL T Z H (vs ++ ws) (ds ++ es)
  | _, _, _, _, .nil, h => h
  | _, _, _, _, .cons h t, q => .cons h (RpL.app t q)
theorem RpL.drop : ∀ {vs : List V} {ds : List D} (n : Nat), RpL T Z H vs ds → RpL T Z H (vs.drop n) (ds.drop n)
  | _, _, 0, h => h
  | _, _, _ + 1, .nil => .nil
  | _, _, n + 1, .cons _ t => RpL.drop n t
theorem RpL.take : ∀ {vs : List V} {ds : List D} (n : Nat), RpL T Z H vs ds → RpL T Z H (vs.take n) (ds.take n)
  | _, _, 0, _ => .nil
  | _, _, _ + 1, .nil => .nil
  | _, _, n + 1, .cons h t => .cons h (RpL.take n t)
theorem RpL.rev {vs : List V} {ds : List D} (h : RpL T Z H vs ds) : RpL T Z H vs.reverse ds.reverse := by
  induction h using RpL.rec (motive_1 := fun _ _ _ => True) with
  | nil => exact .nil
  | cons h t ih1 ih2 => rw [List.reverse_cons, List.reverse_cons]; exact RpL.app ih2 (.cons h .nil)
  | _ => trivial
theorem RpL.ints : ∀ {vs : List V} {ds : List D} {is : List Int}, RpL T Z H vs ds → D.ints ds = some is → vs = is.map V.int ∧ ds = is.map D.int
  | _, _, _, .nil, e => by
    have e : some ([] : List Int) = some _ := e
    cases e
    exact ⟨rfl, rfl⟩
  | v :: vs, d :: ds, is, .cons h t, e => by
    cases d with
    | int i =>
      have e : (D.ints ds).map (i :: ·) = some is := e
      cases q : D.ints ds with
      | none => rw [q] at e; cases e
      | some js =>
        rw [q] at e
        cases e
        obtain ⟨h1, h2⟩ := RpL.ints t q
        cases h
        exact ⟨by rw [h1]; rfl, by rw [h2]; rfl⟩
    | _ => cases e
theorem RpL.bls : ∀ {vs : List V} {ds : List D} {is : List Bool}, RpL T Z H vs ds → D.bls ds = some is → vs = is.map V.bl ∧ ds = is.map D.bl
  | _, _, _, .nil, e => by
    have e : some ([] : List Bool) = some _ := e
    cases e
    exact ⟨rfl, rfl⟩
  | v :: vs, d :: ds, is, .cons h t, e => by
    cases d with
    | bl i =>
      have e : (D.bls ds).map (i :: ·) = some is := e
      cases q : D.bls ds with
      | none => rw [q] at e; cases e
      | some js =>
        rw [q] at e
        cases e
        obtain ⟨h1, h2⟩ := RpL.bls t q
        cases h
        exact ⟨by rw [h1]; rfl, by rw [h2]; rfl⟩
    | _ => cases e
mutual
/-- the kit's reading of data -/
theorem Rp.dp : ∀ {v : V} {d : D}, Rp T Z H v d → d.eqOk = true → Dp T.K H v d.py
  | _, _, .non, _ => .non
  | _, _, .bl b, _ => .bl b
  | _, _, .int i, _ => .int i
  | _, _, .str _, _ => .str _
  | _, _, .tup h1 h2, e => .tup (.inl (.inl h1)) (RpL.dp h2 e)
  | _, _, .lst _ h1 h2, e => .lst (.inl h1) (RpL.dp h2 e)
  | _, _, .dK _ _ _, e => nomatch e
  | _, _, .dT _ _ _, e => nomatch e
  | _, _, .fn _, e => nomatch e
theorem RpL.dp : ∀ {vs : List V} {ds : List D}, RpL T Z H vs ds → D.eqOks ds = true → DpAll T.K H vs (D.pys ds)
  | _, _, .nil, _ => .nil
  | _, _, .cons h t, e => by
    have e := Bool.and_eq_true_iff.mp (show (_ && _) = true from e)
    exact .cons (Rp.dp h e.1) (RpL.dp t e.2)
end
theorem Vw.dp {v : V} {d : D} (h : Vw T Z H v d) (e : d.eqOk = true) : Dp T.K H v d.py := by
  rcases h with h | ⟨a, rfl, h⟩
  · exact h.dp e
  · cases h with
    | lst h1 h2 => exact .lst (.inl (.inl h1)) (RpL.dp h2 e)
    | dK _ _ => cases e
    | dT _ _ => cases e
-- data that may stand
mutual
theorem Rp.lay : ∀ {v : V} {d : D}, Rp T Z H v d → d.eqOk = true → PyData.canLay0 d.py = true
  | _, _, .non, _ => by simp [D.py, PyData.canLay0]
  | _, _, .bl b, _ => by simp [D.py, PyData.canLay0]
  | _, _, .int i, _ => by simp [D.py, PyData.canLay0]
  | _, _, .str h, _ => by simpa [D.py, PyData.canLay0] using h
  | _, _, .tup h1 h2, e => by simpa [D.py, PyData.canLay0] using RpL.lay h2 e
  | _, _, .lst _ h1 h2, e => by simpa [D.py, PyData.canLay0] using RpL.lay h2 e
  | _, _, .dK _ _ _, e => nomatch e
  | _, _, .dT _ _ _, e => nomatch e
  | _, _, .fn _, e => nomatch e
theorem RpL.lay : ∀ {vs : List V} {ds : List D}, RpL T Z H vs ds → D.eqOks ds = true → PyData.canLayAll0 (D.pys ds) = true
  | _, _, .nil, _ => by simp [D.pys, PyData.canLayAll0]
  | _, _, .cons h t, e => by
    have e := Bool.and_eq_true_iff.mp (show (_ && _) = true from e)
    simp [D.pys, PyData.canLayAll0, Rp.lay h e.1, RpL.lay t e.2]
end
mutual
theorem D.dep_py : ∀ d : D, d.eqOk = true → PyData.depth d.py = d.dep
  | .non, _ => by simp [D.py, PyData.depth, D.dep]
  | .bl _, _ => by simp [D.py, PyData.depth, D.dep]
  | .int _, _ => by simp [D.py, PyData.depth, D.dep]
  | .str _, _ => by simp [D.py, PyData.depth, D.dep]
  | .tup xs, e => by simp only [D.py, PyData.depth, D.dep]; rw [D.deps_py xs e]; try omega
  | .lst xs, e => by simp only [D.py, PyData.depth, D.dep]; rw [D.deps_py xs e]; try omega
  | .dct _ _ _, e => nomatch e
  | .fn _, e => nomatch e
  | .ins _ _, e => nomatch e
theorem D.deps_py : ∀ ds : List D, D.eqOks ds = true → PyData.depthAll (D.pys ds) = D.deps ds
  | [], _ => by simp [D.pys, PyData.depthAll, D.deps]
  | d :: ds, e => by
    have e := Bool.and_eq_true_iff.mp (show (_ && _) = true from e)
    simp only [D.pys, PyData.depthAll, D.deps]
    rw [D.dep_py d e.1, D.deps_py ds e.2]
end
mutual
theorem D.eqv_py : ∀ a b : D, a.eqOk = true → b.eqOk = true → PyData.eqv a.py b.py = D.eqb a b
  | .non, b, _, h => by cases b <;> first | (simp [D.py, PyData.eqv, D.eqb]; done) | cases h
  | .bl _, b, _, h => by cases b <;> first | (simp [D.py, PyData.eqv, D.eqb]; done) | cases h
  | .int _, b, _, h => by cases b <;> first | (simp [D.py, PyData.eqv, D.eqb]; done) | cases h
  | .str _, b, _, h => by cases b <;> first | (simp [D.py, PyData.eqv, D.eqb]; done) | cases h
  | .tup xs, b, g, h => by
    cases b with
    | tup ys => simp only [D.py, PyData.eqv, D.eqb]; exact D.eqvs_py xs ys g h
    | dct _ _ _ => cases h
    | fn _ => cases h
    | ins _ _ => cases h
    | _ => simp [D.py, PyData.eqv, D.eqb]
  | .lst xs, b, g, h => by
    cases b with
    | lst ys => simp only [D.py, PyData.eqv, D.eqb]; exact D.eqvs_py xs ys g h
    | dct _ _ _ => cases h
    | fn _ => cases h
    | ins _ _ => cases h
    | _ => simp [D.py, PyData.eqv, D.eqb]
  | .dct _ _ _, _, e, _ => nomatch e
  | .fn _, _, e, _ => nomatch e
  | .ins _ _, _, e, _ => nomatch e
theorem D.eqvs_py : ∀ xs ys : List D, D.eqOks xs = true → D.eqOks ys = true → PyData.eqvAll (D.pys xs) (D.pys ys) = D.eqbs xs ys
  | [], [], _, _ => by simp [D.pys, PyData.eqvAll, D.eqbs]
  | [], _ :: _, _, _ => by simp [D.pys, PyData.eqvAll, D.eqbs]
  | _ :: _, [], _, _ => by simp [D.pys, PyData.eqvAll, D.eqbs]
  | x :: xs, y :: ys, g, h => by
    have g := Bool.and_eq_true_iff.mp (show (_ && _) = true from g)
    have h := Bool.and_eq_true_iff.mp (show (_ && _) = true from h)
    simp only [D.pys, PyData.eqvAll, D.eqbs]
    rw [D.eqv_py x y g.1 h.1, D.eqvs_py xs ys g.2 h.2]
end
theorem shaped_of {v : V} {d : D} (h : Vw T Z H v d) (e : d.cmpOk = true) : SeqAt.shaped d.py = true := by
  have e := Bool.and_eq_true_iff.mp (show (_ && _) = true from e)
  have h1 : PyData.canLay0 d.py = true := by
    rcases h with h | ⟨a, rfl, h⟩
    · exact h.lay e.1
    · cases h with
      | lst h1 h2 => simpa [D.py, PyData.canLay0] using RpL.lay h2 e.1
      | dK _ _ => cases e.1
      | dT _ _ => cases e.1
  have h2 := of_decide_eq_true e.2
  show (d.py.canLay0 && decide (d.py.depth ≤ 64)) = true
  rw [Bool.and_eq_true]
  exact ⟨h1, decide_eq_true (by rw [D.dep_py d e.1]; omega)⟩
end
end G
set_option maxHeartbeats 4000000
/-! F4: operators. -/
namespace G
open PySem L2 PySem.Spec PyProof.Rows
theorem szOk_le {n : Nat} (h : szOk n = true) : n ≤ sizeLine := of_decide_eq_true h
/-! ### keys -/
theorem kD_eqb : ∀ a b : Key, D.eqb (kD a) (kD b) = decide (a = b)
  | .inl i, .inl j => by rw [key_ll]; rfl
  | .inl i, .inr y => by rw [key_lr]; rfl
  | .inr x, .inl j => by rw [key_rl]; rfl
  | .inr x, .inr y => by
    rw [key_rr]
    show (x == y) = decide (x = y)
    rw [Bool.eq_iff_iff]
    simp
theorem kDs_eqb : ∀ a b : List Key, D.eqbs (a.map kD) (b.map kD) = decide (a = b)
  | [], [] => by simp [D.eqbs]
  | [], _ :: _ => by simp [D.eqbs]
  | _ :: _, [] => by simp [D.eqbs]
  | x :: xs, y :: ys => by
    simp only [List.map_cons, D.eqbs]
    rw [kD_eqb, kDs_eqb xs ys, Bool.eq_iff_iff]
    simp
theorem kT_eqb (a b : List Key) : D.eqb (kT a) (kT b) = decide (a = b) := by
  show D.eqbs (a.map kD) (b.map kD) = _
  exact kDs_eqb a b
section
variable {κ : Type} [DecidableEq κ] {g : κ → D}
theorem look_val (hg : ∀ a b, D.eqb (g a) (g b) = decide (a = b)) (R : V → D → Prop) (k : κ) : ∀ (kvs : List (κ × V)) (vs : List D), (∀ (i : Nat) (d : D), vs[i]? = some d → ∃ v, (kvs.map (·.2))[i]? = some v ∧ R v d) → kvs.length = vs.length →
    (lookD (kvs.map fun kv => g kv.1) vs (g k) = none ∧ valV kvs k = none) ∨ ∃ v d, lookD (kvs.map fun kv => g kv.1) vs (g k) = some d ∧ valV kvs k = some v ∧ R v d
  | [], [], _, _ => .inl ⟨rfl, rfl⟩
  | [], _ :: _, _, h => by simp at h
  | _ :: _, [], _, h => by simp at h
  | p :: r, d :: ds, hv, hl => by
    by_cases e : p.1 = k
    · obtain ⟨v, h1, h2⟩ := hv 0 d rfl
      have h1 : some p.2 = some v := h1
      cases h1
      refine .inr ⟨p.2, d, ?_, valV_pos e, h2⟩
      show (if D.eqb (g p.1) (g k) then some d else _) = some d
      rw [hg, decide_eq_true e]
      rfl
    · have ih := look_val hg R k r ds (fun i d h => hv (i + 1) d h) (Nat.succ.inj hl)
      have q : lookD ((p :: r).map fun kv => g kv.1) (d :: ds) (g k) = lookD (r.map fun kv => g kv.1) ds (g k) := by
        show (if D.eqb (g p.1) (g k) then some d else lookD (r.map fun kv => g kv.1) ds (g k)) = _
        rw [hg, decide_eq_false e]
        rfl
      rw [q, valV_neg e]
      exact ih
theorem has_val (hg : ∀ a b, D.eqb (g a) (g b) = decide (a = b)) (k : κ) (kvs : List (κ × V)) : hasD (kvs.map fun kv => g kv.1) (g k) = (valV kvs k).isSome := by
  rw [← valV_any]
  show ((kvs.map fun kv => g kv.1).any fun x => D.eqb x (g k)) = _
  rw [List.any_map]
  congr 1
  funext kv
  exact hg _ _
end
section
variable {T : Tb} {W : WX} {Z Z' : Addr → Prop} {H H' : Hp} {ρ ρ' : List En} {σ σ' : L2.St} {P : Addr → Prop}
/-- a key as data: the value is the key's -/
theorem Vw.key {v : V} {d : D} (h : Vw T Z H v d) (e : isKey d = true) : ∃ k : Key, d = kD k ∧ v = kV k := by
  cases d with
  | int i => exact ⟨.inl i, rfl, h.int⟩
  | str x => exact ⟨.inr x, rfl, h.str⟩
  | _ => cases e
theorem RpL.keys : ∀ {vs : List V} {ds : List D}, RpL T Z H vs ds → ds.all isKey = true → ∃ ks : List Key, ds = ks.map kD ∧ vs = ks.map kV
  | _, _, .nil, _ => ⟨[], rfl, rfl⟩
  | _, _, .cons h t, e => by
    rw [List.all_cons, Bool.and_eq_true] at e
    obtain ⟨k, h1, h2⟩ := Vw.key (.inl h) e.1
    obtain ⟨ks, h3, h4⟩ := RpL.keys t e.2
    exact ⟨k :: ks, by rw [h1, h3]; rfl, by rw [h2, h4]; rfl⟩
theorem Vw.keyT {v : V} {d : D} (h : Vw T Z H v d) (e : isKeyT d = true) : ∃ (k : List Key) (b : Addr), d = kT k ∧ v = .ref b ∧ H b = some (.tup (k.map kV)) := by
  cases d with
  | tup xs =>
    obtain ⟨a, vs, rfl, h1, h2⟩ := h.tup
    obtain ⟨ks, h3, h4⟩ := h2.keys e
    exact ⟨ks, a, by rw [h3]; rfl, rfl, by rw [h1, h4]⟩
  | _ => cases e
/-- what a dict has at a key -/
theorem Vw.look {v y : V} {t : Bool} {ks vs : List D} {x : D} (h : Vw T Z H v (.dct t ks vs)) (hy : Vw T Z H y x) (e : keyFits t x = true) :
    ∃ a, v = .ref a ∧ ((lookD ks vs x = none ∧ hasD ks x = false ∧ DGet H a y none) ∨ ∃ w d, lookD ks vs x = some d ∧ hasD ks x = true ∧ DGet H a y (some w) ∧ Rp T Z H w d) := by
  cases t with
  | false =>
    obtain ⟨a, kvs, rfl, h1, rfl, h3⟩ := h.dK
    obtain ⟨k, rfl, rfl⟩ := hy.key e
    refine ⟨a, rfl, ?_⟩
    have hh := has_val (g := kD) kD_eqb k kvs
    rcases look_val (g := kD) kD_eqb (Rp T Z H) k kvs vs (fun i d q => h3.get q) (by have := h3.length; simpa using this) with ⟨q1, q2⟩ | ⟨w, d, q1, q2, q3⟩
    · rw [q2] at hh
      exact .inl ⟨q1, hh, .inl ⟨kvs, k, h1, rfl, q2.symm⟩⟩
    · rw [q2] at hh
      exact .inr ⟨w, d, q1, hh, .inl ⟨kvs, k, h1, rfl, q2.symm⟩, q3⟩
  | true =>
    obtain ⟨a, kvs, rfl, h1, rfl, h3⟩ := h.dT
    obtain ⟨k, b, rfl, rfl, hb⟩ := hy.keyT e
    refine ⟨a, rfl, ?_⟩
    have hh := has_val (g := kT) kT_eqb k kvs
    rcases look_val (g := kT) kT_eqb (Rp T Z H) k kvs vs (fun i d q => h3.get q) (by have := h3.length; simpa using this) with ⟨q1, q2⟩ | ⟨w, d, q1, q2, q3⟩
    · rw [q2] at hh
      exact .inl ⟨q1, hh, .inr ⟨kvs, k, b, h1, rfl, hb, q2.symm⟩⟩
    · rw [q2] at hh
      exact .inr ⟨w, d, q1, hh, .inr ⟨kvs, k, b, h1, rfl, hb, q2.symm⟩, q3⟩
/-- flat data -/
theorem Rp.flat {v : V} {d : D} (h : Rp T Z H v d) (e : d.flat = true) : flatV v = true := by
  cases h <;> first | rfl | cases e
theorem Rp.eqV {v w : V} {d e : D} (h : Rp T Z H v d) (h' : Rp T Z H w e) (f : d.flat = true) (f' : e.flat = true) : eqV v w = D.eqb d e := by
  cases h <;> first | (cases h' <;> first | (simp [L2.eqV, D.eqb]; done) | (cases f'; done)) | (cases f; done)
theorem Vw.rp {v : V} {d : D} (h : Vw T Z H v d) (e : d.flat = true) : Rp T Z H v d := by
  rcases h with h | ⟨a, rfl, h⟩
  · exact h
  · cases h <;> cases e
theorem RpL.inV {w : V} {e : D} (h' : Rp T Z H w e) (f' : e.flat = true) : ∀ {vs : List V} {ds : List D}, RpL T Z H vs ds → ds.all D.flat = true → vs.all flatV = true ∧ inV w vs = ds.any fun y => D.eqb y e
  | _, _, .nil, _ => ⟨rfl, rfl⟩
  | _, _, .cons h t, f => by
    rw [List.all_cons, Bool.and_eq_true] at f
    obtain ⟨h1, h2⟩ := RpL.inV h' f' t f.2
    refine ⟨?_, ?_⟩
    · rw [List.all_cons, h.flat f.1, h1]
      rfl
    · show (L2.eqV _ w || L2.inV w _) = _
      rw [h2, h.eqV h' f.1 f']
      rfl
theorem RpL.any_eqv {e : D} (g : e.eqOk = true) : ∀ (ds : List D), D.eqOks ds = true → ((D.pys ds).any fun z => PyData.eqv z e.py) = ds.any fun y => D.eqb y e
  | [], _ => rfl
  | d :: ds, f => by
    have f := Bool.and_eq_true_iff.mp (show (_ && _) = true from f)
    show (PyData.eqv d.py e.py || (D.pys ds).any _) = (D.eqb d e || ds.any _)
    rw [D.eqv_py d e f.1 g, RpL.any_eqv g ds f.2]
end
/-! ### list + list of what may be read -/
def rCatR : R2 := fun x y H Q => ∃ l b xs zs, x = .ref l ∧ y = .ref b ∧ Rd H l (.lst xs) ∧ Rd H b (.lst zs) ∧ xs.length + zs.length ≤ sizeLine ∧ ∀ p, H p = none → Q (.ref p) (upd H p (.lst (xs ++ zs)))
section
variable {X : Cx}
theorem Inv.lstR {pins : List (Addr × Obj)} {σ : L2.St} {H : Hp} {s : Shared} {l : Addr} {xs : List V} (I : Inv X pins σ H s) (hH : Rd H l (.lst xs)) :
    xs.length ≤ sizeLine ∧ ∃ (its : List Value) (n : Nat), Vals xs its ∧ xs.length = its.length ∧ s.heap.get? l = some { cls := .type "list", data := .seq its.toArray n } := by
  obtain ⟨z, its, n, r, e⟩ := hH.ok I.hok
  exact ⟨z, its, n, r, r.length, e⟩
theorem op_catR : OpR X (binaryOp .Add) rCatR := by
  intro pins s σ H x y v u Q I rx ry h
  obtain ⟨l, b, xs, zs, rfl, rfl, hH, hB, hz, q⟩ := h
  cases rx
  cases ry
  obtain ⟨z, its, n, r, hl, e⟩ := Inv.lstR I hH
  obtain ⟨z2, its2, n2, r2, hl2, e2⟩ := Inv.lstR I hB
  refine PySem.P.add_list e e2 ?_ (by rw [List.size_toArray, List.size_toArray]; omega)
  have ea : its.toArray ++ its2.toArray = (its ++ its2).toArray := by simp
  rw [ea]
  exact ⟨.ref _, _, I.lnew (t' := s.toks) (r.append r2) (by rw [List.length_append]; omega), rfl, q _ I.fresh⟩
/-! ### in a dict -/
def rInDct : R2 := fun x y H Q => ∃ a o, y = .ref a ∧ DGet H a x o ∧ Q (.bl o.isSome) H
def rNiDct : R2 := fun x y H Q => ∃ a o, y = .ref a ∧ DGet H a x o ∧ Q (.bl (!o.isSome)) H
theorem op_inDct (hu : X.A.units + 1 < cLine) : OpR X (compareOp .In) rInDct := by
  intro pins s σ H x y v u Q I rx ry h
  obtain ⟨a, o, rfl, g, q⟩ := h
  cases ry
  exact d_in hu I g rx fun s' I' => ⟨.bl _, H, I', rfl, q⟩
theorem op_niDct (hu : X.A.units + 1 < cLine) : OpR X (compareOp .NotIn) rNiDct := by
  intro pins s σ H x y v u Q I rx ry h
  obtain ⟨a, o, rfl, g, q⟩ := h
  cases ry
  exact d_notIn hu I g rx fun s' I' => ⟨.bl _, H, I', rfl, q⟩
/-! ### all operators -/
def rAdd4 (K : PySem.W.Frag) : R2 := fun x y H Q => rI0 (fun i j => .int (i + j)) x y H Q ∨ (fun x y H Q => ∃ i j, x = .str i ∧ y = .str j ∧ i.length + j.length ≤ sizeLine ∧ Q (.str (i ++ j)) H : R2) x y H Q ∨ rCatA K x y H Q ∨ rCatR x y H Q
theorem op_add4 : OpR X (binaryOp .Add) (rAdd4 X.K) := op_add.or (op_add_str.or (op_catA.or op_catR))
def rLt3 (K : PySem.W.Frag) : R2 := fun x y H Q => rI0 (fun i j => .bl (decide (i < j))) x y H Q ∨ (fun x y H Q => ∃ i j, x = .str i ∧ y = .str j ∧ Q (.bl (decide (i.cps.toList < j.cps.toList))) H : R2) x y H Q ∨ rLtT K x y H Q
theorem op_lt3 (hu : X.A.units < cLine) : OpR X (compareOp .Lt) (rLt3 X.K) := op_lt.or (op_lt_str.or (op_ltT hu))
def rIn4 (K : PySem.W.Frag) : R2 := fun x y H Q => rInD K x y H Q ∨ rIn K false x y H Q ∨ rInDct x y H Q ∨ (fun x y H Q => ∃ i j, x = .str i ∧ y = .str j ∧ Q (.bl (!(Builtin.Str.occurrences j i 0 j.length 1).isEmpty)) H : R2) x y H Q
theorem op_in4 (hu : X.A.units + 65 < cLine) : OpR X (compareOp .In) (rIn4 X.K) := (op_inD hu).or (op_in_seq.or ((op_inDct (by omega)).or op_in_str))
def rNi3 (K : PySem.W.Frag) : R2 := fun x y H Q => rNotInD K x y H Q ∨ rIn K true x y H Q ∨ rNiDct x y H Q
theorem op_ni3 (hu : X.A.units + 65 < cLine) : OpR X (compareOp .NotIn) (rNi3 X.K) := (op_notInD hu).or (op_notIn_seq.or (op_niDct (by omega)))
end
section
variable {T : Tb} {W : WX} {Z Z' : Addr → Prop} {H H' : Hp} {ρ ρ' : List En} {σ σ' : L2.St} {P : Addr → Prop} {x y : V} {d e : D} {Q : VK}
abbrev P2 (T : Tb) (W : WX) (P Z : Addr → Prop) (H : Hp) (ρ : List En) (σ : L2.St) (r : Option (Bool × D)) (Q : VK) : Prop := Pst T W (VlR T) Ov P Z H ρ σ (lift2 r ρ) Q
theorem p2_none {r : Option (Bool × D)} (h : P2 T W P Z H ρ σ r Q) : ∃ o d, r = some (o, d) := by
  cases r with
  | none => exact h.elim
  | some p => exact ⟨p.1, p.2, rfl⟩
theorem p2_if {c : Bool} {r : Option (Bool × D)} (h : P2 T W P Z H ρ σ (if c = true then r else none) Q) : c = true ∧ P2 T W P Z H ρ σ r Q := by
  cases c with
  | false => exact h.elim
  | true => exact ⟨rfl, h⟩
theorem add_ok (r : Rel T Z ρ σ H) (hx : Vw T Z H x d) (hy : Vw T Z H y e) (h : P2 T W P Z H ρ σ (prim2 .add d e) Q) : rAdd4 T.K x y H Q := by
  cases d with
  | int i =>
    cases e with
    | int j =>
      obtain rfl := hx.int
      obtain rfl := hy.int
      exact .inl ⟨i, j, rfl, rfl, Pst.shr r h (.int _)⟩
    | _ => exact h.elim
  | str i =>
    cases e with
    | str j =>
      obtain rfl := hx.str
      obtain rfl := hy.str
      obtain ⟨c, h⟩ := p2_if h
      rw [Bool.and_eq_true] at c
      exact .inr (.inl ⟨i, j, rfl, rfl, szOk_le c.1, Pst.shr r h (.str c.2)⟩)
    | _ => exact h.elim
  | tup xs =>
    cases e with
    | tup ys =>
      obtain ⟨a, vs, rfl, h1, h2⟩ := hx.tup
      obtain ⟨b, ws, rfl, h3, h4⟩ := hy.tup
      obtain ⟨c, h⟩ := p2_if h
      have l1 := h2.length
      have l2 := h4.length
      refine .inr (.inr (.inl ⟨a, b, vs, ws, rfl, rfl, .of h1, .of h3, by rw [l1, l2]; exact szOk_le c, fun e => ?_, fun _ e => ?_, fun _ _ p hp => Pst.newT r h hp (h2.app h4)⟩))
      · subst e
        cases h2
        exact Pst.shr r h (.tup h3 h4)
      · subst e
        cases h4
        exact Pst.shr r h (by rw [List.append_nil]; exact .tup h1 h2)
    | _ => exact h.elim
  | lst xs =>
    cases e with
    | lst ys =>
      obtain ⟨a, vs, rfl, h1, h2⟩ := hx.lst
      obtain ⟨b, ws, rfl, h3, h4⟩ := hy.lst
      obtain ⟨c, h⟩ := p2_if h
      have l1 := h2.length
      have l2 := h4.length
      exact .inr (.inr (.inr ⟨a, b, vs, ws, rfl, rfl, h1, h3, by rw [l1, l2]; exact szOk_le c, fun p hp => Pst.newO r h hp (Rw.newL hp (h2.app h4))⟩))
    | _ => exact h.elim
  | _ => cases e <;> exact h.elim
theorem sub_ok (r : Rel T Z ρ σ H) (hx : Vw T Z H x d) (hy : Vw T Z H y e) (h : P2 T W P Z H ρ σ (prim2 .sub d e) Q) : rI0 (fun i j => .int (i - j)) x y H Q := by
  cases d with
  | int i =>
    cases e with
    | int j =>
      obtain rfl := hx.int
      obtain rfl := hy.int
      exact ⟨i, j, rfl, rfl, Pst.shr r h (.int _)⟩
    | _ => exact h.elim
  | _ => cases e <;> exact h.elim
theorem small_CMul {i j : Int} (h : (small64 i || small64 j) = true) : CMul i j := by
  simp only [small64, Bool.or_eq_true, decide_eq_true_eq] at h
  rcases h with h | h
  · exact .inl ⟨by omega, by omega⟩
  · exact .inr ⟨by omega, by omega⟩
def rMul1 : R2 := rI CMul fun i j => .int (i * j)
theorem mul_ok (r : Rel T Z ρ σ H) (hx : Vw T Z H x d) (hy : Vw T Z H y e) (h : P2 T W P Z H ρ σ (prim2 .mul d e) Q) : rMul1 x y H Q := by
  cases d with
  | int i =>
    cases e with
    | int j =>
      obtain rfl := hx.int
      obtain rfl := hy.int
      obtain ⟨c, h⟩ := p2_if h
      exact ⟨i, j, rfl, rfl, small_CMul c, Pst.shr r h (.int _)⟩
    | _ => exact h.elim
  | _ => cases e <;> exact h.elim
theorem fdv_ok (r : Rel T Z ρ σ H) (hx : Vw T Z H x d) (hy : Vw T Z H y e) (h : P2 T W P Z H ρ σ (prim2 .fdv d e) Q) : rI CDiv (fun i j => .int (i / j)) x y H Q := by
  cases d with
  | int i =>
    cases e with
    | int j =>
      obtain rfl := hx.int
      obtain rfl := hy.int
      obtain ⟨c, h⟩ := p2_if h
      rw [Bool.and_eq_true] at c
      exact ⟨i, j, rfl, rfl, ⟨of_decide_eq_true c.1, of_decide_eq_true c.2⟩, Pst.shr r h (.int _)⟩
    | _ => exact h.elim
  | _ => cases e <;> exact h.elim
theorem mod_ok (r : Rel T Z ρ σ H) (hx : Vw T Z H x d) (hy : Vw T Z H y e) (h : P2 T W P Z H ρ σ (prim2 .mod d e) Q) : rI (fun _ j => 0 < j) (fun i j => .int (i % j)) x y H Q := by
  cases d with
  | int i =>
    cases e with
    | int j =>
      obtain rfl := hx.int
      obtain rfl := hy.int
      obtain ⟨c, h⟩ := p2_if h
      exact ⟨i, j, rfl, rfl, of_decide_eq_true c, Pst.shr r h (.int _)⟩
    | _ => exact h.elim
  | _ => cases e <;> exact h.elim
theorem pow_ok (r : Rel T Z ρ σ H) (hx : Vw T Z H x d) (hy : Vw T Z H y e) (h : P2 T W P Z H ρ σ (prim2 .pow d e) Q) : rI CPow (fun i j => .int (i ^ j.toNat)) x y H Q := by
  cases d with
  | int i =>
    cases e with
    | int j =>
      obtain rfl := hx.int
      obtain rfl := hy.int
      obtain ⟨c, h⟩ := p2_if h
      simp only [small64, Bool.and_eq_true, decide_eq_true_eq] at c
      exact ⟨i, j, rfl, rfl, ⟨c.1.1, c.1.2, by have := c.2; omega⟩, Pst.shr r h (.int _)⟩
    | _ => exact h.elim
  | _ => cases e <;> exact h.elim
theorem lt_ok (r : Rel T Z ρ σ H) (hx : Vw T Z H x d) (hy : Vw T Z H y e) (h : P2 T W P Z H ρ σ (prim2 .lt d e) Q) : rLt3 T.K x y H Q := by
  cases d with
  | int i =>
    cases e with
    | int j =>
      obtain rfl := hx.int
      obtain rfl := hy.int
      exact .inl ⟨i, j, rfl, rfl, Pst.shr r h (.bl _)⟩
    | _ => exact h.elim
  | str i =>
    cases e with
    | str j =>
      obtain rfl := hx.str
      obtain rfl := hy.str
      exact .inr (.inl ⟨i, j, rfl, rfl, Pst.shr r h (.bl _)⟩)
    | _ => exact h.elim
  | tup xs =>
    cases e with
    | tup ys =>
      obtain ⟨a, vs, rfl, h1, h2⟩ := hx.tup
      obtain ⟨b, ws, rfl, h3, h4⟩ := hy.tup
      have h : P2 T W P Z H ρ σ ((match D.ints xs, D.ints ys with
        | some is, some js => some (lexLt is js)
        | _, _ => none).map fun r => (false, D.bl r)) Q := h
      cases e1 : D.ints xs with
      | none => rw [e1] at h; exact h.elim
      | some is =>
        cases e2 : D.ints ys with
        | none => rw [e1, e2] at h; exact h.elim
        | some js =>
          rw [e1, e2] at h
          obtain ⟨q1, _⟩ := h2.ints e1
          obtain ⟨q2, _⟩ := h4.ints e2
          have el : ∀ a b : List Int, HT.lexLt a b = lexLt a b := by
            intro a
            induction a with
            | nil => intro b; cases b <;> rfl
            | cons i is ih =>
              intro b
              cases b with
              | nil => rfl
              | cons j js => simp only [HT.lexLt, lexLt]; rw [ih]
          refine .inr (.inr ⟨a, b, is, js, rfl, rfl, .of (by rw [h1, q1]), .of (by rw [h3, q2]), ?_⟩)
          rw [el]
          exact Pst.shr r h (.bl _)
    | _ => exact h.elim
  | _ => cases e <;> exact h.elim
theorem gt_ok (r : Rel T Z ρ σ H) (hx : Vw T Z H x d) (hy : Vw T Z H y e) (h : P2 T W P Z H ρ σ (prim2 .gt d e) Q) : rI0 (fun i j => .bl (decide (j < i))) x y H Q := by
  cases d with
  | int i =>
    cases e with
    | int j =>
      obtain rfl := hx.int
      obtain rfl := hy.int
      exact ⟨i, j, rfl, rfl, Pst.shr r h (.bl _)⟩
    | _ => exact h.elim
  | _ => cases e <;> exact h.elim
theorem le_ok (r : Rel T Z ρ σ H) (hx : Vw T Z H x d) (hy : Vw T Z H y e) (h : P2 T W P Z H ρ σ (prim2 .le d e) Q) : rI0 (fun i j => .bl (decide (i ≤ j))) x y H Q := by
  cases d with
  | int i =>
    cases e with
    | int j =>
      obtain rfl := hx.int
      obtain rfl := hy.int
      exact ⟨i, j, rfl, rfl, Pst.shr r h (.bl _)⟩
    | _ => exact h.elim
  | _ => cases e <;> exact h.elim
theorem ge_ok (r : Rel T Z ρ σ H) (hx : Vw T Z H x d) (hy : Vw T Z H y e) (h : P2 T W P Z H ρ σ (prim2 .ge d e) Q) : rI0 (fun i j => .bl (decide (j ≤ i))) x y H Q := by
  cases d with
  | int i =>
    cases e with
    | int j =>
      obtain rfl := hx.int
      obtain rfl := hy.int
      exact ⟨i, j, rfl, rfl, Pst.shr r h (.bl _)⟩
    | _ => exact h.elim
  | _ => cases e <;> exact h.elim
theorem eq_ok (r : Rel T Z ρ σ H) (hx : Vw T Z H x d) (hy : Vw T Z H y e) (h : P2 T W P Z H ρ σ (prim2 .eq d e) Q) : rEqD T.K x y H Q := by
  have h : P2 T W P Z H ρ σ (if (d.cmpOk && e.cmpOk) = true then some (false, .bl (D.eqb d e)) else none) Q := by
    cases d <;> exact h
  obtain ⟨c, h⟩ := p2_if h
  rw [Bool.and_eq_true] at c
  have c1 := (Bool.and_eq_true_iff.mp (show (_ && _) = true from c.1)).1
  have c2 := (Bool.and_eq_true_iff.mp (show (_ && _) = true from c.2)).1
  exact ⟨d.py, e.py, hx.dp c1, hy.dp c2, shaped_of hx c.1, shaped_of hy c.2, by rw [D.eqv_py d e c1 c2]; exact Pst.shr r h (.bl _)⟩
theorem ne_ok (r : Rel T Z ρ σ H) (hx : Vw T Z H x d) (hy : Vw T Z H y e) (h : P2 T W P Z H ρ σ (prim2 .ne d e) Q) : rNeD T.K x y H Q := by
  have h : P2 T W P Z H ρ σ (if (d.cmpOk && e.cmpOk) = true then some (false, .bl (!D.eqb d e)) else none) Q := by
    cases d <;> exact h
  obtain ⟨c, h⟩ := p2_if h
  rw [Bool.and_eq_true] at c
  have c1 := (Bool.and_eq_true_iff.mp (show (_ && _) = true from c.1)).1
  have c2 := (Bool.and_eq_true_iff.mp (show (_ && _) = true from c.2)).1
  exact ⟨d.py, e.py, hx.dp c1, hy.dp c2, shaped_of hx c.1, shaped_of hy c.2, by rw [D.eqv_py d e c1 c2]; exact Pst.shr r h (.bl _)⟩
theorem in_ok (r : Rel T Z ρ σ H) (hx : Vw T Z H x d) (hy : Vw T Z H y e) (h : P2 T W P Z H ρ σ (prim2 .isin d e) Q) : rIn4 T.K x y H Q := by
  cases e with
  | lst ys =>
    have h : P2 T W P Z H ρ σ (if (d.cmpOk && (D.lst ys).cmpOk) = true then some (false, .bl (ys.any fun y => D.eqb y d)) else none) Q := by
      cases d <;> exact h
    obtain ⟨c, h⟩ := p2_if h
    rw [Bool.and_eq_true] at c
    have c1 := (Bool.and_eq_true_iff.mp (show (_ && _) = true from c.1)).1
    have c2 := (Bool.and_eq_true_iff.mp (show (_ && _) = true from c.2)).1
    exact .inl ⟨d.py, D.pys ys, hx.dp c1, hy.dp c2, shaped_of hx c.1, shaped_of hy c.2, by rw [RpL.any_eqv c1 ys c2]; exact Pst.shr r h (.bl _)⟩
  | tup ys =>
    have h : P2 T W P Z H ρ σ (if (d.flat && ys.all D.flat) = true then some (false, .bl (ys.any fun y => D.eqb y d)) else none) Q := by
      cases d <;> exact h
    obtain ⟨c, h⟩ := p2_if h
    rw [Bool.and_eq_true] at c
    obtain ⟨a, vs, rfl, h1, h2⟩ := hy.tup
    have hr := hx.rp c.1
    obtain ⟨q1, q2⟩ := h2.inV hr c.1 c.2
    exact .inr (.inl ⟨a, vs, rfl, .inr (.of h1), hr.flat c.1, q1, by rw [if_neg Bool.false_ne_true, q2]; exact Pst.shr r h (.bl _)⟩)
  | dct t ks vs =>
    have h : P2 T W P Z H ρ σ (if keyFits t d = true then some (false, .bl (hasD ks d)) else none) Q := by
      cases d <;> exact h
    obtain ⟨c, h⟩ := p2_if h
    obtain ⟨a, rfl, q⟩ := hy.look hx c
    rcases q with ⟨_, q2, q3⟩ | ⟨w, d', _, q2, q3, _⟩
    · exact .inr (.inr (.inl ⟨a, none, rfl, q3, by rw [q2] at h; exact Pst.shr r h (.bl _)⟩))
    · exact .inr (.inr (.inl ⟨a, some w, rfl, q3, by rw [q2] at h; exact Pst.shr r h (.bl _)⟩))
  | str j =>
    cases d with
    | str i =>
      obtain rfl := hx.str
      obtain rfl := hy.str
      exact .inr (.inr (.inr ⟨i, j, rfl, rfl, Pst.shr r h (.bl _)⟩))
    | _ => exact h.elim
  | _ => cases d <;> exact h.elim
theorem ni_ok (r : Rel T Z ρ σ H) (hx : Vw T Z H x d) (hy : Vw T Z H y e) (h : P2 T W P Z H ρ σ (prim2 .notin d e) Q) : rNi3 T.K x y H Q := by
  cases e with
  | lst ys =>
    have h : P2 T W P Z H ρ σ (if (d.cmpOk && (D.lst ys).cmpOk) = true then some (false, .bl (!ys.any fun y => D.eqb y d)) else none) Q := by
      cases d <;> exact h
    obtain ⟨c, h⟩ := p2_if h
    rw [Bool.and_eq_true] at c
    have c1 := (Bool.and_eq_true_iff.mp (show (_ && _) = true from c.1)).1
    have c2 := (Bool.and_eq_true_iff.mp (show (_ && _) = true from c.2)).1
    exact .inl ⟨d.py, D.pys ys, hx.dp c1, hy.dp c2, shaped_of hx c.1, shaped_of hy c.2, by rw [RpL.any_eqv c1 ys c2]; exact Pst.shr r h (.bl _)⟩
  | tup ys =>
    have h : P2 T W P Z H ρ σ (if (d.flat && ys.all D.flat) = true then some (false, .bl (!ys.any fun y => D.eqb y d)) else none) Q := by
      cases d <;> exact h
    obtain ⟨c, h⟩ := p2_if h
    rw [Bool.and_eq_true] at c
    obtain ⟨a, vs, rfl, h1, h2⟩ := hy.tup
    have hr := hx.rp c.1
    obtain ⟨q1, q2⟩ := h2.inV hr c.1 c.2
    exact .inr (.inl ⟨a, vs, rfl, .inr (.of h1), hr.flat c.1, q1, by rw [if_pos rfl, q2]; exact Pst.shr r h (.bl _)⟩)
  | dct t ks vs =>
    have h : P2 T W P Z H ρ σ (if keyFits t d = true then some (false, .bl (!hasD ks d)) else none) Q := by
      cases d <;> exact h
    obtain ⟨c, h⟩ := p2_if h
    obtain ⟨a, rfl, q⟩ := hy.look hx c
    rcases q with ⟨_, q2, q3⟩ | ⟨w, d', _, q2, q3, _⟩
    · exact .inr (.inr ⟨a, none, rfl, q3, by rw [q2] at h; exact Pst.shr r h (.bl _)⟩)
    · exact .inr (.inr ⟨a, some w, rfl, q3, by rw [q2] at h; exact Pst.shr r h (.bl _)⟩)
  | _ => cases d <;> exact h.elim
end
end G
set_option maxHeartbeats 4000000
/-! F5: items, slices, built-in functions. -/
namespace G
open PySem L2 PySem.Spec PyProof.Rows
section
variable {X : Cx}
def rIxD : R2 := fun x y H Q => ∃ a v, x = .ref a ∧ DGet H a y (some v) ∧ Q v H
theorem ix_dct (hu : X.A.units + 1 < cLine) : IxR X rIxD := by
  intro value slice pins s σ H x y v u Q I rx ry h hs
  obtain ⟨a, w, rfl, g, q⟩ := h
  cases rx
  have hT := dict_typeIs I g
  have h₂ : wpAny (model X.prog X.w) X.A (getItem (.ref a) u) (EP X pins σ Q) X.xe s := d_getItem hu I g ry fun w' s3 I3 rw' => ⟨w, H, I3, rw', q⟩
  unfold subscriptTail
  refine wpAny_bind ?_
  rw [getitemInPython_of_ne hT.not_modules]
  refine wpAny_bind (wpAny_specialOf hT PySem.F.slot_dict_getitem.lookup ?_)
  have fin : wpAny (model X.prog X.w) X.A (subscripted slice false (.ref a) u) (fun r s₃ => wpAny (model X.prog X.w) X.A (letTemporaryGo value (.ref a) r >>= fun _ => pure r) (EP X pins σ Q) X.xe s₃) X.xe s := by
    rw [hs]
    exact wpAny_operating (wpAny_mono h₂ (fun r s₃ h₃ => wpAny_bind (wpAny_letTemporaryGo (wpAny_pure h₃))) fun _ _ x => x)
  first
    | exact wpAny_pure (wpAny_bind fin)
    | exact wpAny_bind (wpAny_pure (wpAny_bind fin))
    | exact wpAny_bind fin
def rIx3 (K : PySem.W.Frag) : R2 := fun x y H Q => rIxL K x y H Q ∨ rIxT K x y H Q ∨ rIxD x y H Q
theorem ix_3 (hu : X.A.units + 1 < cLine) : IxR X (rIx3 X.K) := ix_list.or (ix_tup.or (ix_dct hu))
end
section
variable {T : Tb} {W : WX} {Z Z' : Addr → Prop} {H H' : Hp} {ρ ρ' : List En} {σ σ' : L2.St} {P : Addr → Prop} {x y : V} {d e : D} {Q : VK}
abbrev P1 (T : Tb) (W : WX) (P Z : Addr → Prop) (H : Hp) (ρ : List En) (σ : L2.St) (r : Option D) (Q : VK) : Prop := Pst T W (VlR T) Ov P Z H ρ σ (lift1 r ρ) Q
theorem RpL.atI {vs : List V} {ds : List D} {i : Int} (h : RpL T Z H vs ds) (e : L2.atI ds i = some d) : ∃ v, L2.atI vs i = some v ∧ Rp T Z H v d := by
  unfold L2.atI at e ⊢
  rw [h.length]
  cases q : ixN ds.length i with
  | none => rw [q] at e; cases e
  | some j =>
    rw [q] at e
    exact h.get e
theorem idx_ok (r : Rel T Z ρ σ H) (hx : Vw T Z H x d) (hy : Vw T Z H y e) (h : P1 T W P Z H ρ σ (idxD d e) Q) : rIx3 T.K x y H Q := by
  cases d with
  | tup xs =>
    cases e with
    | int i =>
      obtain ⟨a, vs, rfl, h1, h2⟩ := hx.tup
      obtain rfl := hy.int
      have h : P1 T W P Z H ρ σ (L2.atI xs i) Q := h
      cases q : L2.atI xs i with
      | none => rw [q] at h; exact h.elim
      | some z =>
        rw [q] at h
        obtain ⟨v, h3, h4⟩ := h2.atI q
        exact .inr (.inl ⟨a, vs, i, v, rfl, rfl, .of h1, h3, Pst.shr r h h4⟩)
    | _ => exact h.elim
  | lst xs =>
    cases e with
    | int i =>
      obtain ⟨a, vs, rfl, h1, h2⟩ := hx.lst
      obtain rfl := hy.int
      have h : P1 T W P Z H ρ σ (L2.atI xs i) Q := h
      cases q : L2.atI xs i with
      | none => rw [q] at h; exact h.elim
      | some z =>
        rw [q] at h
        obtain ⟨v, h3, h4⟩ := h2.atI q
        exact .inl ⟨a, vs, i, v, rfl, rfl, .inl h1, h3, Pst.shr r h h4⟩
    | _ => exact h.elim
  | dct t ks vs =>
    have h : P1 T W P Z H ρ σ (if keyFits t e = true then lookD ks vs e else none) Q := by
      cases e <;> exact h
    cases c : keyFits t e with
    | false => rw [c] at h; exact h.elim
    | true =>
      rw [c] at h
      have h : P1 T W P Z H ρ σ (lookD ks vs e) Q := h
      obtain ⟨a, rfl, q⟩ := hx.look hy c
      rcases q with ⟨q1, _, _⟩ | ⟨w, d', q1, _, q3, q4⟩
      · rw [q1] at h; exact h.elim
      · rw [q1] at h
        exact .inr (.inr ⟨a, w, rfl, q3, Pst.shr r h q4⟩)
  | _ => cases e <;> exact h.elim
/-! ### slices -/
def rSl2 (K : PySem.W.Frag) : V → Option Int → Option Int → Hp → VK → Prop := fun x lo hi H Q => rSlL K x lo hi H Q ∨ rSlA K x lo hi H Q
theorem sl_2 {X : Cx} : L2.SlR X (rSl2 X.K) := sl_list.or sl_tupA
theorem cut_rp {vs : List V} {ds : List D} (h : RpL T Z H vs ds) (lo hi : Option Int) : RpL T Z H (cutV vs lo hi) (cutL ds lo hi) := by
  unfold cutV cutL
  rw [h.length]
  exact (h.drop _).take _
theorem sl_ok {lo hi : Option Int} (r : Rel T Z ρ σ H) (hx : Vw T Z H x d) (h : P2 T W P Z H ρ σ (slD d lo hi) Q) : rSl2 T.K x lo hi H Q := by
  cases d with
  | tup xs =>
    obtain ⟨a, vs, rfl, h1, h2⟩ := hx.tup
    refine .inr ⟨a, vs, rfl, .of h1, fun ⟨e1, e2⟩ => ?_, fun _ p hp => Pst.newT r h hp (cut_rp h2 lo hi)⟩
    refine Pst.shr r h (.tup h1 ?_)
    have q := cut_rp h2 lo hi
    have e3 : cutV vs lo hi = vs := by
      unfold cutV
      rw [e1, e2]
      simp
    rw [e3] at q
    exact q
  | lst xs =>
    obtain ⟨a, vs, rfl, h1, h2⟩ := hx.lst
    exact .inl ⟨a, vs, rfl, .inl h1, fun p hp => Pst.newO r h hp (Rw.newL hp (cut_rp h2 lo hi))⟩
  | _ => exact h.elim
theorem rev_ok {te : TE} (r : Rel T Z ρ σ H) (hx : Vw T Z H x (.lst ds)) (h : P2 T W P Z H ρ σ (revD (.lst ds)) Q) : ∃ a xs, x = .ref a ∧ SqL T.K H a xs ∧ ∀ p, H p = none → Q (.ref p) (upd H p (.lst xs.reverse)) := by
  obtain ⟨a, vs, rfl, h1, h2⟩ := hx.lst
  exact ⟨a, vs, rfl, .inl h1, fun p hp => Pst.newO r h hp (Rw.newL hp h2.rev)⟩
/-! ### one place -/
theorem neg_ok (r : Rel T Z ρ σ H) (hx : Vw T Z H x d) (h : P1 T W P Z H ρ σ (prim1 .neg d) Q) : rU (fun i => .int (-i)) x H Q := by
  cases d with
  | int i =>
    obtain rfl := hx.int
    exact ⟨i, rfl, Pst.shr r h (.int _)⟩
  | _ => exact h.elim
theorem not_ok (r : Rel T Z ρ σ H) (hx : Vw T Z H x d) (h : P1 T W P Z H ρ σ (prim1 .not d) Q) : ∃ c, x = .bl c ∧ Q (.bl (!c)) H := by
  cases d with
  | bl i =>
    obtain rfl := hx.bl
    exact ⟨i, rfl, Pst.shr r h (.bl _)⟩
  | _ => exact h.elim
theorem Vw.ref {v : V} {d : D} (h : Vw T Z H v d) : (d = .non ∧ v = .non) ∨ (d ≠ .non ∧ v ≠ .non) := by
  rcases h with h | ⟨a, rfl, h⟩
  · cases h <;> first | exact .inl ⟨rfl, rfl⟩ | exact .inr ⟨(nomatch ·), (nomatch ·)⟩
  · cases h <;> exact .inr ⟨(nomatch ·), (nomatch ·)⟩
theorem isN_ok (r : Rel T Z ρ σ H) (hx : Vw T Z H x d) (h : P1 T W P Z H ρ σ (prim1 .isN d) Q) : Q (.bl (decide (x = .non))) H := by
  rcases hx.ref with ⟨rfl, rfl⟩ | ⟨h1, h2⟩
  · rw [decide_eq_true rfl]
    exact Pst.shr r h (.bl _)
  · rw [decide_eq_false h2]
    cases d <;> first | exact absurd rfl h1 | exact Pst.shr r h (.bl _) | exact h.elim
theorem notN_ok (r : Rel T Z ρ σ H) (hx : Vw T Z H x d) (h : P1 T W P Z H ρ σ (prim1 .notN d) Q) : Q (.bl (!decide (x = .non))) H := by
  rcases hx.ref with ⟨rfl, rfl⟩ | ⟨h1, h2⟩
  · rw [decide_eq_true rfl]
    exact Pst.shr r h (.bl _)
  · rw [decide_eq_false h2]
    cases d <;> first | exact absurd rfl h1 | exact Pst.shr r h (.bl _) | exact h.elim
end
end G
set_option maxHeartbeats 4000000
/-! F6: built-in functions. -/
namespace L2
open PySem PySem.Spec PyProof.Rows
section
variable {P : Program} {w : World} {H : Hp} {h h' : Heap} {a : Addr} {o : HO}
theorem ObjOk.there (x : ObjOk P w H h a o) : ∃ ob, h.get? a = some ob := by
  cases o with
  | lst xs => obtain ⟨_, _, _, _, e⟩ := x; exact ⟨_, e⟩
  | tup xs => obtain ⟨_, _, _, ob, e, _⟩ := x; exact ⟨_, e⟩
  | dK kvs => obtain ⟨_, _, _, _, o, _, _, e, _⟩ := x; exact ⟨_, e⟩
  | dT kvs => obtain ⟨_, _, _, _, o, _, _, e, _⟩ := x; exact ⟨_, e⟩
  | set S n => obtain ⟨o, _, _, _, e, _⟩ := x; exact ⟨_, e⟩
  | ins C dx fs => obtain ⟨_, _, _, e, _⟩ := x; exact ⟨_, e⟩
  | own y => obtain ⟨_, e⟩ := x; exact ⟨_, e⟩
  | xd fs => obtain ⟨_, ⟨_, _, _, e, _⟩, _⟩ := x; exact ⟨_, e⟩
  | rng lo hi => obtain ⟨_, _, _, e⟩ := x; exact ⟨_, e⟩
  | frz ob u => obtain ⟨e, _⟩ := x; exact ⟨_, e⟩
  | tbl ps => exact ⟨_, show h.get? a = some _ from x⟩
  | met f y => exact ⟨_, show h.get? a = some _ from x⟩
  | ext φ => obtain ⟨_, ⟨_, e⟩, _⟩ := x; exact ⟨_, e⟩
theorem HOk.laidAt (x : HOk P w H h) (k : ∀ b u, h.get? b = some u → h'.get? b = some u) (hn : H a = none) (new : ObjOk P w (upd H a o) h' a o) : HOk P w (upd H a o) h' := fun b u e => by
  by_cases hb : b = a
  · subst hb; rw [upd_same] at e; cases e; exact new
  · rw [upd_ne hb] at e
    exact (x b u e).stay (fun c v _ q => k c v q) (fun c q => by rw [upd_ne (ne_of_none q hn)]; exact q) fun c xs q => by rw [upd_ne (ne_of_none q hn)]; exact q
theorem Un.laidAt {fs ex : List Addr} (k : ∀ b u, h.get? b = some u → h'.get? b = some u) (hg : h.get? a = none) (hn : H a = none) : Un fs ex H (upd H a o) h h' where
  keep := fun b u q _ _ _ => k b u q
  slot := fun b u q _ _ _ => ⟨u.slots, k b u q⟩
  free := fun b u q n _ => by rw [upd_ne (fun e => by rw [e, hg] at q; cases q)]; exact n
  there := fun b u q _ => ⟨u, k b u q⟩
  tups := fun b xs q => by rw [upd_ne (ne_of_none q hn)]; exact q
  frzs := fun b u xs q => by rw [upd_ne (ne_of_none q hn)]; exact q
  tbls := fun b ps q => ⟨#[], by rw [upd_ne (ne_of_none q hn), q]; simp⟩
theorem Inv.laidAt {X : Cx} {pins : List (Addr × Obj)} {σ : St} {s : Shared} {t' : Nat} (I : Inv X pins σ H s) (k : ∀ b u, s.heap.get? b = some u → h'.get? b = some u) (hn : H a = none) (hg : s.heap.get? a = none)
    (new : ObjOk X.prog X.w (upd H a o) h' a o) : Inv X pins σ (upd H a o) { s with heap := h', toks := t' } := I.un (Un.laidAt k hg hn) (I.hok.laidAt k hn new)
end
end L2
namespace G
open PySem L2 PySem.Spec PyProof.Rows
section
variable {X : Cx}
def rLenDT : List V → Hp → VK → Prop := fun xs H Q => ∃ (p : Addr) (kvs : List (List Key × V)), xs = [.ref p] ∧ Rd H p (.dT kvs) ∧ Q (.int ((kvs.length : Nat) : Int)) H
theorem call_lenDT : CallR X (.builtin "len") rLenDT := by
  intro pins s σ H xs us Q I r h
  obtain ⟨p, kvs, rfl, hp, q⟩ := h
  obtain ⟨u, rfl, rx⟩ := vals1 r
  obtain rfl : u = .ref p := rx
  obtain ⟨z, hd, ys, rel, dd⟩ := dt_rd I.hok hp
  have hl : kvs.length = ys.length := Paired.length rel
  have hs := line63
  refine call_len_dictH hd dd (by omega) ⟨.int _, H, I.tok _, ⟨_, by rw [hl]⟩, q⟩
def rLenDK : List V → Hp → VK → Prop := fun xs H Q => ∃ (p : Addr) (kvs : List (Key × V)), xs = [.ref p] ∧ Rd H p (.dK kvs) ∧ Q (.int ((kvs.length : Nat) : Int)) H
theorem call_lenDK : CallR X (.builtin "len") rLenDK := by
  intro pins s σ H xs us Q I r h
  obtain ⟨p, kvs, rfl, hp, q⟩ := h
  obtain ⟨u, rfl, rx⟩ := vals1 r
  obtain rfl : u = .ref p := rx
  exact d_len I hp fun t s' I' => ⟨.int _, H, I', ⟨t, rfl⟩, q⟩
def rLen4 (K : PySem.W.Frag) : List V → Hp → VK → Prop := fun xs H Q => (∃ p ys, xs = [.ref p] ∧ (SqL K H p ys ∨ SqT K H p ys) ∧ Q (.int ys.length) H) ∨ (∃ z, xs = [.str z] ∧ z.length ≤ sizeLine ∧ Q (.int z.length) H) ∨ rLenDK xs H Q ∨ rLenDT xs H Q
theorem call_len4 : CallR X (.builtin "len") (rLen4 X.K) := call_len_seq.or (call_len_str.or (call_lenDK.or call_lenDT))
/-! ### sorted(d), keys that are tuples of d ints in [0, B) -/
def rSortDT (d : Nat) (B : Int) : List V → Hp → VK → Prop := fun vs H Q => ∃ (a : Addr) (kvs : List (List Key × V)), vs = [V.ref a] ∧ Rd H a (.dT kvs) ∧ kvs.length < 64 ∧
  (∀ kv ∈ kvs, ∃ ns : List Int, kv.1 = ns.map Sum.inl ∧ ns.length = d ∧ TS.Bd B ns) ∧
  ∀ (ys : List V) (p : Addr) (bs : List Addr), IsKeys H kvs bs → ys.Perm (bs.map V.ref) → ys.Pairwise (fun x y => ∀ n m, (∃ t, x = V.ref t ∧ H t = some (.tup (n.map V.int))) → (∃ t, y = V.ref t ∧ H t = some (.tup (m.map V.int))) → TS.code B n ≤ TS.code B m) →
    H p = none → Q (.ref p) (upd H p (.lst ys))
theorem kV_ints (ns : List Int) : (ns.map Sum.inl).map kV = ns.map V.int := by
  rw [List.map_map]
  rfl
theorem cr_sortDT {d : Nat} {B : Int} (hc : X.calm = true) (hd1 : 1 ≤ d) : CallR X (.builtin "sorted") (rSortDT d B) := by
  intro pins s σ H vs us Q I r h
  obtain ⟨a, kvs, rfl, hd, h64, hk, q⟩ := h
  rw [Vals.ref1 r]
  obtain ⟨z, hs, ks, pr, o, es, ep, ho, hx, hdt, he, hn⟩ := (show ObjOk X.prog X.w H s.heap a (.dT kvs) from hd.ok I.hok)
  have l1 : es.size = ks.length := size_of_entries he
  have l2 : kvs.length = ks.length := Paired.length pr
  have hl64 : es.size ≤ sizeLine := by rw [sizeLine_eq]; omega
  refine Calls.call_function_entry kind_sorted plain_sorted entry_sorted (args_sorted1 _) ?_
  unfold Builtin.«sorted»
  refine wpAny_bind (m := checkCount "sorted" 1 1 _) (wpAny_pure ?_)
  refine wpAny_bind (PySem.W.kdu_collect (A := X.A.in1) (kdl_raw hs hx hdt) (I.ok.hd hc) ho hl64 fun h' tk acc' kp it => ?_)
  have ea : acc'.toList = (ks.map fun x => x.2.1).map Value.ref := by
    rw [List.map_map]
    have hl : acc'.toList.length = ks.length := by rw [Array.length_toList, it.1]; exact l1
    apply List.ext_getElem?
    intro j
    rw [List.getElem?_map]
    cases hj : acc'.toList[j]? with
    | none =>
      have h1 := List.getElem?_eq_none_iff.mp hj
      rw [List.getElem?_eq_none (by omega)]
      all_goals rfl
    | some v =>
      obtain ⟨en, hen, hv⟩ := it.2 j v (by rw [← Array.getElem?_toList]; exact hj)
      have qe := entry_at he j
      rw [hen] at qe
      cases hb : ks[j]? with
      | none =>
        rw [hb] at qe
        exact nomatch (show some en = none from qe)
      | some b =>
        rw [hb] at qe
        have e2 : en = entryOfKey (tupleKind (mixKind X.prog X.w)) b := Option.some.inj qe
        rw [hv, e2]
        all_goals rfl
  generalize hbs : (ks.map fun x => x.2.1) = bs at ea
  have hik : IsKeys H kvs bs := by rw [← hbs]; exact isKeys_of pr
  have hbl : bs.length = kvs.length := by rw [← hbs, List.length_map, l2]
  refine wpAny_bind (wpAny_newList ?_ (by rw [ea, List.length_map, hbl, sizeLine_eq]; omega))
  have hoL : (h'.push (seqObj "list" acc'.toList.toArray 0)).get? h'.objs.size = some (seqObj "list" acc'.toList.toArray 0) := Heap.get?_push_size _ rfl
  have keep : ∀ b ob, s.heap.get? b = some ob → (h'.push (seqObj "list" acc'.toList.toArray 0)).get? b = some ob := fun b ob e => Heap.get?_push_of_some _ (kp b ob e)
  have at_ : ∀ b ∈ bs, ∃ ns : List Int, H b = some (.tup (ns.map V.int)) ∧ ns.length = d ∧ TS.Bd B ns := by
    clear hbs ea hbl q hd h64 pr l2 z
    revert hk
    unfold IsKeys at hik
    induction hik with
    | nil => intro _ b hb; cases hb
    | cons h t ih =>
      intro hk b hb
      rcases List.mem_cons.mp hb with e | hb
      · obtain ⟨ns, e1, e2, e3⟩ := hk _ List.mem_cons_self
        refine ⟨ns, ?_, e2, e3⟩
        rw [e, h, e1, kV_ints]
      · exact ih (fun kv hm => hk kv (List.mem_cons_of_mem _ hm)) b hb
  have tin : ∀ b ∈ bs, ∀ ns : List Int, H b = some (.tup (ns.map V.int)) → TS.TupInts (h'.push (seqObj "list" acc'.toList.toArray 0)) (.ref b) ns := fun b _ ns e => by
    obtain ⟨_, its, rv, hT⟩ := (show ObjOk X.prog X.w H s.heap b (.tup (ns.map V.int)) from I.hok b _ e)
    obtain ⟨ob, h1, h2⟩ := hT
    exact ⟨b, its.toArray, rfl, ⟨ob, keep b ob h1, h2⟩, by simpa using rv.ints⟩
  refine wpAny_bind (wpAny_holding (TS.call_sort_tups (d := d) (B := B) (vs := acc'.toList) hoL (by rw [ea, List.length_map, hbl]; exact h64) hd1 (fun v hv => ?_) fun out h1 h2 => ?_))
  · rw [ea] at hv
    obtain ⟨b, hb, rfl⟩ := List.mem_map.mp hv
    obtain ⟨ns, e1, e2, e3⟩ := at_ b hb
    exact ⟨ns, tin b hb ns e1, e2, e3⟩
  · have hout : ∀ u ∈ out.toList, ∃ b ∈ bs, u = Value.ref b := fun u hu => by
      have := h1.mem_iff.mp hu
      rw [ea] at this
      obtain ⟨b, hb, e⟩ := List.mem_map.mp this
      exact ⟨b, hb, e.symm⟩
    have e2 : ∀ u ∈ out.toList, ∃ b, u = Value.ref b := fun u hu => let ⟨b, _, e⟩ := hout u hu; ⟨b, e⟩
    have hp : (out.toList.map bkV).Perm (bs.map V.ref) := by
      have := h1.map bkV
      rw [ea] at this
      refine this.trans ?_
      rw [List.map_map]
      exact List.Perm.of_eq (List.map_congr_left fun b _ => rfl)
    obtain ⟨ep', he'⟩ := PyProof.Rows.sortedHeap_at (vs := acc'.toList) (out := out) hoL
    have hlen : (out.toList.map bkV).length ≤ sizeLine := by
      rw [hp.length_eq, List.length_map, hbl]
      exact z
    refine wpAny_pure ⟨_, rfl, ?_⟩
    have kk : ∀ b ob, s.heap.get? b = some ob → (sortedHeap (h'.push (seqObj "list" acc'.toList.toArray 0)) h'.objs.size acc'.toList out).get? b = some ob := fun b ob e => by
      have hlt : b < h'.objs.size := Heap.lt_size (kp b ob e)
      rw [PyProof.Rows.sortedHeap_old (Nat.ne_of_lt hlt) (by rw [Heap.size_push]; exact Nat.lt_succ_of_lt hlt)]
      exact keep b ob e
    have hg0 : s.heap.get? h'.objs.size = none := by
      cases e1 : s.heap.get? h'.objs.size with
      | none => rfl
      | some ob => exact absurd (Heap.lt_size (kp _ _ e1)) (Nat.lt_irrefl _)
    have hn0 : H h'.objs.size = none := by
      cases e1 : H h'.objs.size with
      | none => rfl
      | some u =>
        obtain ⟨ob, e2⟩ := (I.hok _ _ e1).there
        rw [hg0] at e2
        cases e2
    refine ⟨.ref h'.objs.size, upd H h'.objs.size (.lst (out.toList.map bkV)), I.laidAt (t' := tk) kk hn0 hg0 ⟨hlen, out.toList, ep', bkV_vals e2, he'⟩, rfl, q _ _ bs hik hp ?_ hn0⟩
    rw [List.pairwise_map]
    refine List.Pairwise.imp_of_mem (fun {u v} hu hv huv n m hn' hm' => ?_) h2
    obtain ⟨b, hb, rfl⟩ := hout u hu
    obtain ⟨c, hc', rfl⟩ := hout v hv
    obtain ⟨t, et, ht⟩ := hn'
    obtain ⟨t', et', ht'⟩ := hm'
    cases et
    cases et'
    have i1 := (tin b hb n ht).ints
    have i2 := (tin c hc' m ht').ints
    rw [← i1, ← i2]
    exact huv
end
end G
set_option maxHeartbeats 4000000
/-! F7: built-in functions, by their answers. -/
namespace G
open PySem L2 PySem.Spec PyProof.Rows
/-! ### sorting -/
theorem sorted_unique {α : Type} (k : α → Int) : ∀ l1 l2 : List α, l1.Perm l2 → l1.Pairwise (fun x y => k x ≤ k y) → l2.Pairwise (fun x y => k x ≤ k y) → (∀ x ∈ l1, ∀ y ∈ l1, k x = k y → x = y) → l1 = l2
  | [], l2, p, _, _, _ => (List.nil_perm.mp p).symm
  | a :: l1, [], p, _, _, _ => (List.perm_nil.mp p)
  | a :: l1, b :: l2, p, h1, h2, inj => by
    have ha : a ∈ b :: l2 := p.mem_iff.mp List.mem_cons_self
    have hb : b ∈ a :: l1 := p.mem_iff.mpr List.mem_cons_self
    rw [List.pairwise_cons] at h1 h2
    have e1 : k a ≤ k b := by
      rcases List.mem_cons.mp hb with e | e
      · rw [e]; exact Int.le_refl _
      · exact h1.1 _ e
    have e2 : k b ≤ k a := by
      rcases List.mem_cons.mp ha with e | e
      · rw [e]; exact Int.le_refl _
      · exact h2.1 _ e
    have e : a = b := inj a List.mem_cons_self b hb (Int.le_antisymm e1 e2)
    subst e
    rw [sorted_unique k l1 l2 (List.Perm.cons_inv p) h1.2 h2.2 fun x hx y hy => inj x (List.mem_cons_of_mem _ hx) y (List.mem_cons_of_mem _ hy)]
theorem insI_perm (x : Int) : ∀ l : List Int, (insI x l).Perm (x :: l)
  | [] => .refl _
  | y :: ys => by
    unfold insI
    split
    · exact .refl _
    · exact ((insI_perm x ys).cons y).trans (.swap ..)
theorem sortI_perm : ∀ l : List Int, (sortI l).Perm l
  | [] => .refl _
  | x :: xs => (insI_perm x _).trans ((sortI_perm xs).cons x)
theorem insI_sorted (x : Int) : ∀ l : List Int, l.Pairwise (· ≤ ·) → (insI x l).Pairwise (· ≤ ·)
  | [], _ => List.pairwise_singleton _ _
  | y :: ys, h => by
    rw [List.pairwise_cons] at h
    unfold insI
    split
    · rename_i q
      refine List.pairwise_cons.mpr ⟨fun z hz => ?_, List.pairwise_cons.mpr h⟩
      rcases List.mem_cons.mp hz with e | hz
      · rw [e]; exact q
      · exact Int.le_trans q (h.1 z hz)
    · rename_i q
      refine List.pairwise_cons.mpr ⟨fun z hz => ?_, insI_sorted x ys h.2⟩
      rcases List.mem_cons.mp ((insI_perm x ys).mem_iff.mp hz) with e | hz
      · rw [e]; omega
      · exact h.1 z hz
theorem sortI_sorted : ∀ l : List Int, (sortI l).Pairwise (· ≤ ·)
  | [] => .nil
  | x :: xs => insI_sorted x _ (sortI_sorted xs)
theorem insL_perm (x : List Int) : ∀ l : List (List Int), (insL x l).Perm (x :: l)
  | [] => .refl _
  | y :: ys => by
    unfold insL
    split
    · exact .refl _
    · exact ((insL_perm x ys).cons y).trans (.swap ..)
theorem sortL_perm : ∀ l : List (List Int), (sortL l).Perm l
  | [] => .refl _
  | x :: xs => (insL_perm x _).trans ((sortL_perm xs).cons x)
abbrev cLe (x y : List Int) : Prop := TS.code bd40 x ≤ TS.code bd40 y
theorem insL_sorted (x : List Int) : ∀ l : List (List Int), l.Pairwise cLe → (insL x l).Pairwise cLe
  | [], _ => List.pairwise_singleton _ _
  | y :: ys, h => by
    rw [List.pairwise_cons] at h
    unfold insL
    split
    · rename_i q
      refine List.pairwise_cons.mpr ⟨fun z hz => ?_, List.pairwise_cons.mpr h⟩
      rcases List.mem_cons.mp hz with e | hz
      · rw [e]; exact q
      · exact Int.le_trans q (h.1 z hz)
    · rename_i q
      refine List.pairwise_cons.mpr ⟨fun z hz => ?_, insL_sorted x ys h.2⟩
      rcases List.mem_cons.mp ((insL_perm x ys).mem_iff.mp hz) with e | hz
      · rw [e]
        show TS.code bd40 y ≤ TS.code bd40 x
        omega
      · exact h.1 z hz
theorem sortL_sorted : ∀ l : List (List Int), (sortL l).Pairwise cLe
  | [] => .nil
  | x :: xs => insL_sorted x _ (sortL_sorted xs)
theorem code_inj {B : Int} : ∀ a b : List Int, a.length = b.length → TS.Bd B a → TS.Bd B b → TS.code B a = TS.code B b → a = b
  | [], [], _, _, _, _ => rfl
  | [], _ :: _, h, _, _, _ => by simp at h
  | _ :: _, [], h, _, _, _ => by simp at h
  | x :: xs, y :: ys, hl, ha, hb, e => by
    have hl' : xs.length = ys.length := by simpa using hl
    rcases Int.lt_trichotomy x y with h | h | h
    · have := TS.code_lt hl' ha.tail hb.tail h
      omega
    · subst h
      have e2 : TS.code B xs = TS.code B ys := by
        have e : x * B ^ xs.length + TS.code B xs = x * B ^ ys.length + TS.code B ys := e
        rw [hl'] at e
        omega
      rw [code_inj xs ys hl' ha.tail hb.tail e2]
    · have := TS.code_lt hl'.symm hb.tail ha.tail h
      omega
theorem tupsOk_spec {ls : List (List Int)} (h : tupsOk ls = true) : ∃ d, 1 ≤ d ∧ ∀ m ∈ ls, m.length = d ∧ TS.Bd bd40 m := by
  cases ls with
  | nil => exact ⟨1, Nat.le_refl _, fun m hm => nomatch hm⟩
  | cons l r =>
    have h : (decide (1 ≤ l.length) && (l :: r).all fun m => decide (m.length = l.length) && m.all fun i => decide (0 ≤ i) && decide (i < bd40)) = true := h
    rw [Bool.and_eq_true] at h
    refine ⟨l.length, of_decide_eq_true h.1, fun m hm => ?_⟩
    have q := List.all_eq_true.mp h.2 m hm
    rw [Bool.and_eq_true] at q
    refine ⟨of_decide_eq_true q.1, fun i hi => ?_⟩
    have q2 := List.all_eq_true.mp q.2 i hi
    rw [Bool.and_eq_true] at q2
    exact ⟨of_decide_eq_true q2.1, of_decide_eq_true q2.2⟩
section
variable {T : Tb} {W : WX} {Z Z' : Addr → Prop} {H H' : Hp} {ρ ρ' : List En} {σ σ' : L2.St} {P : Addr → Prop} {x y : V} {d e : D} {Q : VK}
/-- values that are tuples of ints -/
def TupV (H : Hp) (x : V) (n : List Int) : Prop := ∃ t, x = V.ref t ∧ H t = some (.tup (n.map V.int))
theorem map_int_inj : ∀ {a b : List Int}, a.map V.int = b.map V.int → a = b
  | [], [], _ => rfl
  | [], _ :: _, h => nomatch h
  | _ :: _, [], h => nomatch h
  | x :: xs, y :: ys, h => by
    injection h with h1 h2
    injection h1 with h1
    rw [h1, map_int_inj h2]
theorem TupV.inj {n m : List Int} (h : TupV H x n) (h' : TupV H x m) : n = m := by
  obtain ⟨t, rfl, h⟩ := h
  obtain ⟨t', e, h'⟩ := h'
  cases e
  rw [h] at h'
  injection h' with h'
  injection h' with h'
  exact map_int_inj h'
inductive TupVs (H : Hp) : List V → List (List Int) → Prop
  | nil : TupVs H [] []
  | cons {x : V} {n : List Int} {xs : List V} {ns : List (List Int)} : TupV H x n → TupVs H xs ns → TupVs H (x :: xs) (n :: ns)
theorem TupVs.rpL : ∀ {xs : List V} {ns : List (List Int)}, TupVs H xs ns → RpL T Z H xs (ns.map fun is => D.tup (is.map D.int))
  | _, _, .nil => .nil
  | _, _, .cons h t => by
    obtain ⟨t', rfl, h⟩ := h
    refine .cons (.tup h ?_) (TupVs.rpL t)
    rename_i n _ _
    clear h
    induction n with
    | nil => exact .nil
    | cons i r ih => exact .cons (.int i) ih
theorem RpL.tupsI : ∀ {vs : List V} {ds : List D} {ls : List (List Int)}, RpL T Z H vs ds → D.tupsI ds = some ls → TupVs H vs ls ∧ ds = ls.map fun is => D.tup (is.map D.int)
  | _, _, _, .nil, e => by
    have e : some ([] : List (List Int)) = some _ := e
    cases e
    exact ⟨.nil, rfl⟩
  | v :: vs, d :: ds, ls, .cons h t, e => by
    cases d with
    | tup xs =>
      have e : (match D.ints xs, D.tupsI ds with
        | some is, some rs => some (is :: rs)
        | _, _ => none) = some ls := e
      cases q : D.ints xs with
      | none => rw [q] at e; cases e
      | some is =>
        cases q2 : D.tupsI ds with
        | none => rw [q, q2] at e; cases e
        | some rs =>
          rw [q, q2] at e
          cases e
          obtain ⟨h1, h2⟩ := RpL.tupsI t q2
          cases h with
          | tup ha hr =>
            obtain ⟨h3, h4⟩ := hr.ints q
            exact ⟨.cons ⟨_, rfl, by rw [ha, h3]⟩ h1, by rw [h2, h4]; rfl⟩
    | _ => cases e
theorem TupVs.mem : ∀ {xs : List V} {ns : List (List Int)}, TupVs H xs ns → ∀ x ∈ xs, ∃ n ∈ ns, TupV H x n
  | _, _, .nil, x, hx => nomatch hx
  | _, _, .cons h t, x, hx => by
    rcases List.mem_cons.mp hx with e | hx
    · rw [e]; exact ⟨_, List.mem_cons_self, h⟩
    · obtain ⟨n, h1, h2⟩ := TupVs.mem t x hx
      exact ⟨n, List.mem_cons_of_mem _ h1, h2⟩
/-- a permutation of values is one of what they are -/
theorem TupVs.perm {xs ys : List V} (p : xs.Perm ys) : ∀ {ns : List (List Int)}, TupVs H ys ns → ∃ ms, TupVs H xs ms ∧ ms.Perm ns := by
  induction p with
  | nil => exact fun h => ⟨_, h, .refl _⟩
  | cons x p ih =>
    intro ns h
    cases h with
    | cons h t =>
      obtain ⟨ms, h1, h2⟩ := ih t
      exact ⟨_ :: ms, .cons h h1, h2.cons _⟩
  | swap x y l =>
    intro ns h
    cases h with
    | cons h t =>
      cases t with
      | cons h' t => exact ⟨_, .cons h' (.cons h t), .swap ..⟩
  | trans p q ih1 ih2 =>
    intro ns h
    obtain ⟨ms, h1, h2⟩ := ih2 h
    obtain ⟨ks, h3, h4⟩ := ih1 h1
    exact ⟨ks, h3, h4.trans h2⟩
theorem TupVs.pw : ∀ {xs : List V} {ns : List (List Int)}, TupVs H xs ns → xs.Pairwise (fun x y => ∀ n m, TupV H x n → TupV H y m → cLe n m) → ns.Pairwise cLe
  | _, _, .nil, _ => .nil
  | _, _, .cons h t, p => by
    rw [List.pairwise_cons] at p
    refine List.pairwise_cons.mpr ⟨fun m hm => ?_, TupVs.pw t p.2⟩
    have : ∀ {xs : List V} {ns : List (List Int)}, TupVs H xs ns → ∀ m ∈ ns, ∃ x ∈ xs, TupV H x m := by
      intro xs ns h
      induction h with
      | nil => exact fun m hm => nomatch hm
      | cons h _ ih =>
        intro m hm
        rcases List.mem_cons.mp hm with e | hm
        · rw [e]; exact ⟨_, List.mem_cons_self, h⟩
        · obtain ⟨x, h1, h2⟩ := ih m hm
          exact ⟨x, List.mem_cons_of_mem _ h1, h2⟩
    obtain ⟨x, hx, hm⟩ := this t m hm
    exact p.1 x hx _ _ h hm
/-- the sorted values, as data -/
theorem sorted_tups {ys xs : List V} {ls : List (List Int)} {d : Nat} (h : TupVs H xs ls) (hb : ∀ m ∈ ls, m.length = d ∧ TS.Bd bd40 m) (p : ys.Perm xs)
    (q : ys.Pairwise (fun x y => ∀ n m, TupV H x n → TupV H y m → cLe n m)) : TupVs H ys (sortL ls) := by
  obtain ⟨ms, h1, h2⟩ := TupVs.perm p h
  have e : ms = sortL ls := by
    refine sorted_unique (TS.code bd40) ms (sortL ls) (h2.trans (sortL_perm ls).symm) (h1.pw q) (sortL_sorted ls) fun a ha b hb' e => ?_
    have qa := hb a (h2.mem_iff.mp ha)
    have qb := hb b (h2.mem_iff.mp hb')
    exact code_inj a b (by rw [qa.1, qb.1]) qa.2 qb.2 e
  rw [← e]
  exact h1
end
end G
set_option maxHeartbeats 4000000
/-! F8: built-in functions: all of them. -/
namespace G
open PySem L2 PySem.Spec PyProof.Rows
def rSortAll (K : PySem.W.Frag) : List V → Hp → VK → Prop := fun vs H Q => rSorted K vs H Q ∨ (∃ d, 1 ≤ d ∧ rSortU K d bd40 vs H Q) ∨ ∃ d, 1 ≤ d ∧ rSortDT d bd40 vs H Q
theorem call_sortAll {X : Cx} (hc : X.calm = true) : CallR X (.builtin "sorted") (rSortAll X.K) := by
  intro pins s σ H xs us Q I r h
  rcases h with h | ⟨d, hd, h⟩ | ⟨d, hd, h⟩
  · exact cr_sorted pins s σ H xs us Q I r h
  · exact cr_sortT hd pins s σ H xs us Q I r h
  · exact cr_sortDT hc hd pins s σ H xs us Q I r h
/-- its name, its value, what it does -/
def biN : Bi → Str
  | .len => "len" | .abs => "abs" | .sum => "sum" | .max1 => "max" | .max2 => "max" | .min1 => "min" | .min2 => "min" | .any => "any" | .all => "all" | .sorted => "sorted"
  | .tuple => "tuple" | .list => "list" | .int => "int" | .lrng1 => "list" | .lrng2 => "list"
def biR (K : PySem.W.Frag) : Bi → List V → Hp → VK → Prop
  | .len => rLen4 K
  | .abs => fun xs H Q => ∃ i, xs = [.int i] ∧ Q (.int (if i < 0 then -i else i)) H
  | .sum => rSum K
  | .max1 => rMax K
  | .min1 => rMin K
  | .max2 => fun xs H Q => ∃ i j, xs = [.int i, .int j] ∧ Q (.int (if j > i then j else i)) H
  | .min2 => fun xs H Q => ∃ i j, xs = [.int i, .int j] ∧ Q (.int (if j < i then j else i)) H
  | .any => rAny K
  | .all => rAll K
  | .sorted => rSortAll K
  | .tuple => fun xs H Q => ∃ p ys, xs = [.ref p] ∧ ((SqL K H p ys ∧ ∀ l, H l = none → Q (.ref l) (upd H l (.tup ys))) ∨ (SqT K H p ys ∧ Q (.ref p) H))
  | .list => fun xs H Q => ∃ p ys, xs = [.ref p] ∧ (SqL K H p ys ∨ SqT K H p ys) ∧ ∀ l, H l = none → Q (.ref l) (upd H l (.lst ys))
  | .int => fun xs H Q => (∃ i, xs = [.int i] ∧ Q (.int i) H) ∨ ∃ k, xs = [.bl k] ∧ Q (.int (if k then 1 else 0)) H
  | .lrng1 => fun _ _ _ => False
  | .lrng2 => fun _ _ _ => False
def biOk : Bi → Bool
  | .lrng1 => false
  | .lrng2 => false
  | _ => true
section
variable {X : Cx} {p pos : Pos} {e : Expr} {es : List Expr} {t : TA}
/-- a call of a built-in function -/
theorem pe_bi (b : Bi) (hb : biOk b = true) (hc : X.calm = true) (hg : Gl X (biN b)) (hm : X.mg (biN b) = none) (ha : PA X (e :: es) t) (he : starEach (e :: es) X.env = (false, eval e X.env) :: starEach es X.env)
    (hpl : (backTo pos (starEach es X.env)).any (·.1) = false) : PE X (.Call (.Name (biN b) p) (e :: es) [] pos) (tCB (biR X.K b) t) := by
  cases b with
  | len => exact pe_callB (x := "len") call_len4 hg hm PySem.boot_len ha (by decide) (by decide) he hpl
  | abs => exact pe_callB (x := "abs") call_abs hg hm boot_abs ha (by decide) (by decide) he hpl
  | sum => exact pe_callB (x := "sum") (cr_sum hc) hg hm boot_sum ha (by decide) (by decide) he hpl
  | max1 => exact pe_callB (x := "max") (cr_max hc) hg hm boot_max ha (by decide) (by decide) he hpl
  | min1 => exact pe_callB (x := "min") (cr_min hc) hg hm boot_min ha (by decide) (by decide) he hpl
  | max2 => exact pe_callB (x := "max") (call_max2 hc) hg hm boot_max ha (by decide) (by decide) he hpl
  | min2 => exact pe_callB (x := "min") (call_min2 hc) hg hm boot_min ha (by decide) (by decide) he hpl
  | any => exact pe_callB (x := "any") (cr_any hc) hg hm boot_any ha (by decide) (by decide) he hpl
  | all => exact pe_callB (x := "all") (cr_all hc) hg hm boot_all ha (by decide) (by decide) he hpl
  | sorted => exact pe_callB (x := "sorted") (call_sortAll hc) hg hm boot_sorted ha (by decide) (by decide) he hpl
  | tuple => exact pe_callTy (x := "tuple") call_tuple_of hg hm PyProof.Rows.boot_tuple ha (by decide) (by decide) he hpl
  | list => exact pe_callTy (x := "list") call_list_of hg hm PyProof.Rows.boot_list ha (by decide) (by decide) he hpl
  | int => exact pe_callTy (x := "int") call_int1 hg hm PyProof.Rows.boot_int ha (by decide) (by decide) he hpl
  | lrng1 => cases hb
  | lrng2 => cases hb
end
section
variable {T : Tb} {W : WX} {Z Z' : Addr → Prop} {H H' : Hp} {ρ ρ' : List En} {σ σ' : L2.St} {P : Addr → Prop} {x y : V} {d e : D} {Q : VK}
inductive VwL (T : Tb) (Z : Addr → Prop) (H : Hp) : List V → List D → Prop
  | nil : VwL T Z H [] []
  | cons {v : V} {d : D} {vs : List V} {ds : List D} : Vw T Z H v d → VwL T Z H vs ds → VwL T Z H (v :: vs) (d :: ds)
theorem VlsR.vw (r : Rel T Z ρ σ H) : ∀ {vs : List V} {xs : List Vl}, VlsR T Z H σ ρ vs xs → VwL T Z H vs (xs.map fun v => rd v ρ)
  | _, _, .nil => .nil
  | _, _, .cons h t _ => .cons (h.vw r) (VlsR.vw r t)
theorem VwL.one {vs : List V} {d : D} (h : VwL T Z H vs [d]) : ∃ v, vs = [v] ∧ Vw T Z H v d := by
  cases h with
  | cons h t => cases t; exact ⟨_, rfl, h⟩
theorem VwL.two {vs : List V} {d e : D} (h : VwL T Z H vs [d, e]) : ∃ v w, vs = [v, w] ∧ Vw T Z H v d ∧ Vw T Z H w e := by
  cases h with
  | cons h t => cases t with
    | cons h' t => cases t; exact ⟨_, _, rfl, h, h'⟩
theorem max_mem (x : Int) (xs : List Int) : ∀ m, m ∈ x :: xs → (∀ y, y ∈ x :: xs → y ≤ m) → m = maxI x xs := by
  unfold maxI
  induction xs generalizing x with
  | nil =>
    intro m hm _
    simpa using hm
  | cons z zs ih =>
    intro m hm h
    show m = zs.foldl (fun a b => if b > a then b else a) (if z > x then z else x)
    refine ih _ m ?_ fun y hy => ?_
    · rcases List.mem_cons.mp hm with e | hm
      · have hz := h z (by simp)
        rw [e] at hz ⊢
        rw [if_neg (by omega)]
        exact List.mem_cons_self
      · rcases List.mem_cons.mp hm with e | hm
        · have hx := h x (by simp)
          by_cases q : z > x
          · rw [if_pos q, e]; exact List.mem_cons_self
          · rw [if_neg q, e]
            have : z = x := by rw [e] at hx; omega
            rw [this]; exact List.mem_cons_self
        · exact List.mem_cons_of_mem _ hm
    · rcases List.mem_cons.mp hy with e | hy
      · rw [e]
        split
        · exact h z (by simp)
        · exact h x (by simp)
      · exact h y (by simp [hy])
theorem min_mem (x : Int) (xs : List Int) : ∀ m, m ∈ x :: xs → (∀ y, y ∈ x :: xs → m ≤ y) → m = minI x xs := by
  unfold minI
  induction xs generalizing x with
  | nil =>
    intro m hm _
    simpa using hm
  | cons z zs ih =>
    intro m hm h
    show m = zs.foldl (fun a b => if b < a then b else a) (if z < x then z else x)
    refine ih _ m ?_ fun y hy => ?_
    · rcases List.mem_cons.mp hm with e | hm
      · have hz := h z (by simp)
        rw [e] at hz ⊢
        rw [if_neg (by omega)]
        exact List.mem_cons_self
      · rcases List.mem_cons.mp hm with e | hm
        · have hx := h x (by simp)
          by_cases q : z < x
          · rw [if_pos q, e]; exact List.mem_cons_self
          · rw [if_neg q, e]
            have : z = x := by rw [e] at hx; omega
            rw [this]; exact List.mem_cons_self
        · exact List.mem_cons_of_mem _ hm
    · rcases List.mem_cons.mp hy with e | hy
      · rw [e]
        split
        · exact h z (by simp)
        · exact h x (by simp)
      · exact h y (by simp [hy])
theorem p2_map {α : Type} {r : Option α} {f : α → Bool × D} (h : P2 T W P Z H ρ σ (r.map f) Q) : ∃ a, r = some a ∧ P2 T W P Z H ρ σ (some (f a)) Q := by
  cases r with
  | none => exact h.elim
  | some a => exact ⟨a, rfl, h⟩
theorem RpL.intD (ns : List Int) : RpL T Z H (ns.map V.int) (ns.map D.int) := by
  induction ns with
  | nil => exact .nil
  | cons i r ih => exact .cons (.int i) ih
/-- what a built-in function answers -/
theorem bi_ok {b : Bi} {vs : List V} {ds : List D} (hb : biOk b = true) (r : Rel T Z ρ σ H) (hx : VwL T Z H vs ds) (h : P2 T W P Z H ρ σ (biD b ds) Q) : biR T.K b vs H Q := by
  match b, ds, h with
  | .len, [.tup xs], h =>
    obtain ⟨v, rfl, hv⟩ := hx.one
    obtain ⟨a, ws, rfl, h1, h2⟩ := hv.tup
    exact .inl ⟨a, ws, rfl, .inr (.of h1), by rw [h2.length]; exact Pst.shr r h (.int _)⟩
  | .len, [.lst xs], h =>
    obtain ⟨v, rfl, hv⟩ := hx.one
    obtain ⟨a, ws, rfl, h1, h2⟩ := hv.lst
    exact .inl ⟨a, ws, rfl, .inl (.inl h1), by rw [h2.length]; exact Pst.shr r h (.int _)⟩
  | .len, [.str x], h =>
    obtain ⟨v, rfl, hv⟩ := hx.one
    obtain rfl := hv.str
    obtain ⟨c, h⟩ := p2_if h
    exact .inr (.inl ⟨x, rfl, szOk_le c, Pst.shr r h (.int _)⟩)
  | .len, [.dct false ks vs'], h =>
    obtain ⟨v, rfl, hv⟩ := hx.one
    obtain ⟨a, kvs, rfl, h1, rfl, h3⟩ := hv.dK
    exact .inr (.inr (.inl ⟨a, kvs, rfl, h1, by rw [← List.length_map (f := fun kv : Key × V => kD kv.1)]; exact Pst.shr r h (.int _)⟩))
  | .len, [.dct true ks vs'], h =>
    obtain ⟨v, rfl, hv⟩ := hx.one
    obtain ⟨a, kvs, rfl, h1, rfl, h3⟩ := hv.dT
    exact .inr (.inr (.inr ⟨a, kvs, rfl, h1, by rw [← List.length_map (f := fun kv : List Key × V => kT kv.1)]; exact Pst.shr r h (.int _)⟩))
  | .abs, [.int i], h =>
    obtain ⟨v, rfl, hv⟩ := hx.one
    obtain rfl := hv.int
    exact ⟨i, rfl, Pst.shr r h (.int _)⟩
  | .sum, [.lst xs], h =>
    obtain ⟨v, rfl, hv⟩ := hx.one
    obtain ⟨a, ws, rfl, h1, h2⟩ := hv.lst
    obtain ⟨is, e, h⟩ := p2_map h
    obtain ⟨h3, _⟩ := h2.ints e
    exact ⟨a, is, rfl, .inl (by rw [← h3]; exact h1), Pst.shr r h (.int _)⟩
  | .max2, [.int i, .int j], h =>
    obtain ⟨v, w, rfl, hv, hw⟩ := hx.two
    obtain rfl := hv.int
    obtain rfl := hw.int
    exact ⟨i, j, rfl, Pst.shr r h (.int _)⟩
  | .min2, [.int i, .int j], h =>
    obtain ⟨v, w, rfl, hv, hw⟩ := hx.two
    obtain rfl := hv.int
    obtain rfl := hw.int
    exact ⟨i, j, rfl, Pst.shr r h (.int _)⟩
  | .max1, [.lst xs], h =>
    obtain ⟨v, rfl, hv⟩ := hx.one
    obtain ⟨a, ws, rfl, h1, h2⟩ := hv.lst
    have h : P2 T W P Z H ρ σ (match D.ints xs with
      | some (i :: is) => some (false, .int (maxI i is))
      | _ => none) Q := h
    cases e : D.ints xs with
    | none => rw [e] at h; exact h.elim
    | some is =>
      cases is with
      | nil => rw [e] at h; exact h.elim
      | cons i is =>
        rw [e] at h
        obtain ⟨h3, _⟩ := h2.ints e
        refine ⟨a, i :: is, rfl, .inl (by rw [← h3]; exact h1), Nat.succ_pos _, fun m hm hq => ?_⟩
        rw [max_mem i is m hm hq]
        exact Pst.shr r h (.int _)
  | .min1, [.lst xs], h =>
    obtain ⟨v, rfl, hv⟩ := hx.one
    obtain ⟨a, ws, rfl, h1, h2⟩ := hv.lst
    have h : P2 T W P Z H ρ σ (match D.ints xs with
      | some (i :: is) => some (false, .int (minI i is))
      | _ => none) Q := h
    cases e : D.ints xs with
    | none => rw [e] at h; exact h.elim
    | some is =>
      cases is with
      | nil => rw [e] at h; exact h.elim
      | cons i is =>
        rw [e] at h
        obtain ⟨h3, _⟩ := h2.ints e
        refine ⟨a, i :: is, rfl, .inl (by rw [← h3]; exact h1), Nat.succ_pos _, fun m hm hq => ?_⟩
        rw [min_mem i is m hm hq]
        exact Pst.shr r h (.int _)
  | .any, [.lst xs], h =>
    obtain ⟨v, rfl, hv⟩ := hx.one
    obtain ⟨a, ws, rfl, h1, h2⟩ := hv.lst
    obtain ⟨is, e, h⟩ := p2_map h
    obtain ⟨h3, _⟩ := h2.bls e
    exact ⟨a, is, rfl, .inl (by rw [← h3]; exact h1), Pst.shr r h (.bl _)⟩
  | .all, [.lst xs], h =>
    obtain ⟨v, rfl, hv⟩ := hx.one
    obtain ⟨a, ws, rfl, h1, h2⟩ := hv.lst
    obtain ⟨is, e, h⟩ := p2_map h
    obtain ⟨h3, _⟩ := h2.bls e
    exact ⟨a, is, rfl, .inl (by rw [← h3]; exact h1), Pst.shr r h (.bl _)⟩
  | .sorted, [.lst xs], h =>
    obtain ⟨v, rfl, hv⟩ := hx.one
    obtain ⟨a, ws, rfl, h1, h2⟩ := hv.lst
    obtain ⟨c, h⟩ := p2_if h
    have c := of_decide_eq_true c
    have hl := h2.length
    obtain ⟨ys, e, h⟩ := p2_map h
    cases e1 : D.ints xs with
    | some is =>
      have e2 : sortD xs = some ((sortI is).map D.int) := by unfold sortD; rw [e1]
      rw [e2] at e
      cases e
      obtain ⟨h3, h4⟩ := h2.ints e1
      have hl2 : is.length < 64 := by
        have := congrArg List.length h4
        rw [List.length_map] at this
        omega
      refine .inl ⟨a, is, rfl, .inl (by rw [← h3]; exact h1), hl2, fun ns' p hp hs hn => ?_⟩
      have e3 : ns' = sortI is := sorted_unique id ns' _ (hp.trans (sortI_perm is).symm) hs (sortI_sorted is) fun x _ y _ e => e
      rw [e3]
      exact Pst.newO r h hn (Rw.newL hn (RpL.intD _))
    | none =>
      cases e2 : D.tupsI xs with
      | none =>
        have e3 : sortD xs = none := by unfold sortD; rw [e1, e2]
        rw [e3] at e
        cases e
      | some ls =>
        have e3 : sortD xs = if tupsOk ls then some ((sortL ls).map fun is => D.tup (is.map D.int)) else none := by unfold sortD; rw [e1, e2]
        rw [e3] at e
        cases c2 : tupsOk ls with
        | false => rw [c2] at e; cases e
        | true =>
          rw [c2] at e
          cases e
          obtain ⟨d, hd, hb⟩ := tupsOk_spec c2
          obtain ⟨h3, h4⟩ := h2.tupsI e2
          refine .inr (.inl ⟨d, hd, a, ws, rfl, .inl h1, by omega, fun x hx => ?_, fun ys p hp hs hn => ?_⟩)
          · obtain ⟨n, hn, t, rfl, ht⟩ := h3.mem x hx
            exact ⟨n, ⟨t, rfl, .of ht⟩, (hb n hn).1, (hb n hn).2⟩
          · refine Pst.newO r h hn (Rw.newL hn (sorted_tups h3 hb hp (hs.imp fun q n m hn hm => ?_)).rpL)
            obtain ⟨t, rfl, ht⟩ := hn
            obtain ⟨t', rfl, ht'⟩ := hm
            exact q n m ⟨t, rfl, .of ht⟩ ⟨t', rfl, .of ht'⟩
  | .sorted, [.dct true ks vs'], h =>
    obtain ⟨v, rfl, hv⟩ := hx.one
    obtain ⟨a, kvs, rfl, h1, rfl, h3⟩ := hv.dT
    obtain ⟨c, h⟩ := p2_if h
    have c := of_decide_eq_true c
    rw [List.length_map] at c
    cases e2 : D.tupsI (kvs.map fun kv => kT kv.1) with
    | none => rw [e2] at h; exact h.elim
    | some ls =>
      rw [e2] at h
      obtain ⟨c2, h⟩ := p2_if h
      obtain ⟨d, hd, hb⟩ := tupsOk_spec c2
      have key : ∀ (kvs : List (List Key × V)) (ls : List (List Int)), D.tupsI (kvs.map fun kv => kT kv.1) = some ls → kvs.map (·.1) = ls.map fun n => n.map Sum.inl := by
        intro kvs
        induction kvs with
        | nil =>
          intro ls e
          have e : some ([] : List (List Int)) = some ls := e
          cases e
          rfl
        | cons kv r ih =>
          intro ls e
          have e : (match D.ints (kv.1.map kD), D.tupsI (r.map fun kv => kT kv.1) with
            | some is, some rs => some (is :: rs)
            | _, _ => none) = some ls := e
          cases q : D.ints (kv.1.map kD) with
          | none => rw [q] at e; cases e
          | some is =>
            cases q2 : D.tupsI (r.map fun kv => kT kv.1) with
            | none => rw [q, q2] at e; cases e
            | some rs =>
              rw [q, q2] at e
              cases e
              have e3 : ∀ (k : List Key) (is : List Int), D.ints (k.map kD) = some is → k = is.map Sum.inl := by
                intro k
                induction k with
                | nil =>
                  intro is e
                  have e : some ([] : List Int) = some is := e
                  cases e
                  rfl
                | cons k ks ih =>
                  intro is e
                  cases k with
                  | inr x => cases e
                  | inl i =>
                    have e : (D.ints (ks.map kD)).map (i :: ·) = some is := e
                    cases q : D.ints (ks.map kD) with
                    | none => rw [q] at e; cases e
                    | some js =>
                      rw [q] at e
                      cases e
                      rw [ih js q]
                      rfl
              rw [List.map_cons, ih rs q2, e3 kv.1 is q]
              rfl
      have hk := key kvs ls e2
      have hkb : ∀ (kvs : List (List Key × V)) (ls : List (List Int)) (bs : List Addr), kvs.map (·.1) = ls.map (fun n => n.map Sum.inl) → IsKeys H kvs bs → TupVs H (bs.map V.ref) ls := by
        intro kvs
        induction kvs with
        | nil =>
          intro ls bs e q
          cases q
          cases ls with
          | nil => exact .nil
          | cons _ _ => cases e
        | cons kv r ih =>
          intro ls bs e q
          cases q with
          | cons q1 q2 =>
            cases ls with
            | nil => cases e
            | cons l ls =>
              injection e with e1 e2
              have e1 : kv.1 = l.map Sum.inl := e1
              exact .cons ⟨_, rfl, by rw [q1, e1, kV_ints]⟩ (ih ls _ e2 q2)
      refine .inr (.inr ⟨d, hd, a, kvs, rfl, h1, c, fun kv hm => ?_, fun ys p bs hbs hp hs hn => ?_⟩)
      · have : kv.1 ∈ kvs.map (·.1) := List.mem_map.mpr ⟨kv, hm, rfl⟩
        rw [hk] at this
        obtain ⟨n, hn, e⟩ := List.mem_map.mp this
        exact ⟨n, e.symm, (hb n hn).1, (hb n hn).2⟩
      · exact Pst.newO r h hn (Rw.newL hn (sorted_tups (hkb kvs ls bs hk hbs) hb hp hs).rpL)
  | .tuple, [.lst xs], h =>
    obtain ⟨v, rfl, hv⟩ := hx.one
    obtain ⟨a, ws, rfl, h1, h2⟩ := hv.lst
    exact ⟨a, ws, rfl, .inl ⟨.inl h1, fun l hl => Pst.newT r h hl h2⟩⟩
  | .tuple, [.tup xs], h =>
    obtain ⟨v, rfl, hv⟩ := hx.one
    obtain ⟨a, ws, rfl, h1, h2⟩ := hv.tup
    exact ⟨a, ws, rfl, .inr ⟨.of h1, Pst.shr r h (.tup h1 h2)⟩⟩
  | .list, [.lst xs], h =>
    obtain ⟨v, rfl, hv⟩ := hx.one
    obtain ⟨a, ws, rfl, h1, h2⟩ := hv.lst
    exact ⟨a, ws, rfl, .inl (.inl h1), fun l hl => Pst.newO r h hl (Rw.newL hl h2)⟩
  | .list, [.tup xs], h =>
    obtain ⟨v, rfl, hv⟩ := hx.one
    obtain ⟨a, ws, rfl, h1, h2⟩ := hv.tup
    exact ⟨a, ws, rfl, .inr (.of h1), fun l hl => Pst.newO r h hl (Rw.newL hl h2)⟩
  | .int, [.int i], h =>
    obtain ⟨v, rfl, hv⟩ := hx.one
    obtain rfl := hv.int
    exact .inl ⟨i, rfl, Pst.shr r h (.int _)⟩
  | .int, [.bl i], h =>
    obtain ⟨v, rfl, hv⟩ := hx.one
    obtain rfl := hv.bl
    exact .inr ⟨i, rfl, Pst.shr r h (.int _)⟩
end
end G
set_option maxHeartbeats 4000000
/-! F9: isinstance, methods, stores. -/
namespace G
open PySem L2 PySem.Spec PyProof.Rows
def tyN : Ty → String
  | .int => "int" | .bool => "bool" | .tuple => "tuple" | .str => "str" | .list => "list" | .dict => "dict"
def tyS : Ty → Str
  | .int => "int" | .bool => "bool" | .tuple => "tuple" | .str => "str" | .list => "list" | .dict => "dict"
theorem boot_ty (t : Ty) : bootBuiltins (tyS t) = some (.type (tyN t)) := by
  cases t <;> decide +kernel
def kiD : D → String
  | .non => "NoneType" | .bl _ => "bool" | .int _ => "int" | .str _ => "str" | .tup _ => "tuple" | .lst _ => "list" | .dct _ _ _ => "dict" | .fn _ => "function" | .ins _ _ => "object"
theorem kit_all (t : Ty) (d : D) (h : isiO t d ≠ none) : kitB (kiD d) (tyN t) = some (isiD t d) := by
  cases d with
  | fn k => exact absurd rfl h
  | ins c fs => exact absurd rfl h
  | dct b ks vs =>
    show kitB "dict" (tyN t) = some (isiD t (.dct b ks vs))
    cases t with
    | dict => exact (by decide +kernel : kitB "dict" "dict" = some true)
    | int => exact (by decide +kernel : kitB "dict" "int" = some false)
    | bool => exact (by decide +kernel : kitB "dict" "bool" = some false)
    | tuple => exact (by decide +kernel : kitB "dict" "tuple" = some false)
    | str => exact (by decide +kernel : kitB "dict" "str" = some false)
    | list => exact (by decide +kernel : kitB "dict" "list" = some false)
  | non => cases t <;> decide +kernel
  | bl b =>
    show kitB "bool" (tyN t) = some (isiD t (.bl b))
    cases t with
    | dict => exact (by decide +kernel : kitB "bool" "dict" = some false)
    | int => exact (by decide +kernel : kitB "bool" "int" = some true)
    | bool => exact (by decide +kernel : kitB "bool" "bool" = some true)
    | tuple => exact (by decide +kernel : kitB "bool" "tuple" = some false)
    | str => exact (by decide +kernel : kitB "bool" "str" = some false)
    | list => exact (by decide +kernel : kitB "bool" "list" = some false)
  | int b =>
    show kitB "int" (tyN t) = some (isiD t (.int b))
    cases t with
    | dict => exact (by decide +kernel : kitB "int" "dict" = some false)
    | int => exact (by decide +kernel : kitB "int" "int" = some true)
    | bool => exact (by decide +kernel : kitB "int" "bool" = some false)
    | tuple => exact (by decide +kernel : kitB "int" "tuple" = some false)
    | str => exact (by decide +kernel : kitB "int" "str" = some false)
    | list => exact (by decide +kernel : kitB "int" "list" = some false)
  | str b =>
    show kitB "str" (tyN t) = some (isiD t (.str b))
    cases t with
    | dict => exact (by decide +kernel : kitB "str" "dict" = some false)
    | int => exact (by decide +kernel : kitB "str" "int" = some false)
    | bool => exact (by decide +kernel : kitB "str" "bool" = some false)
    | tuple => exact (by decide +kernel : kitB "str" "tuple" = some false)
    | str => exact (by decide +kernel : kitB "str" "str" = some true)
    | list => exact (by decide +kernel : kitB "str" "list" = some false)
  | tup b =>
    show kitB "tuple" (tyN t) = some (isiD t (.tup b))
    cases t with
    | dict => exact (by decide +kernel : kitB "tuple" "dict" = some false)
    | int => exact (by decide +kernel : kitB "tuple" "int" = some false)
    | bool => exact (by decide +kernel : kitB "tuple" "bool" = some false)
    | tuple => exact (by decide +kernel : kitB "tuple" "tuple" = some true)
    | str => exact (by decide +kernel : kitB "tuple" "str" = some false)
    | list => exact (by decide +kernel : kitB "tuple" "list" = some false)
  | lst b =>
    show kitB "list" (tyN t) = some (isiD t (.lst b))
    cases t with
    | dict => exact (by decide +kernel : kitB "list" "dict" = some false)
    | int => exact (by decide +kernel : kitB "list" "int" = some false)
    | bool => exact (by decide +kernel : kitB "list" "bool" = some false)
    | tuple => exact (by decide +kernel : kitB "list" "tuple" = some false)
    | str => exact (by decide +kernel : kitB "list" "str" = some false)
    | list => exact (by decide +kernel : kitB "list" "list" = some true)
section
variable {T : Tb} {W : WX} {Z Z' : Addr → Prop} {H H' : Hp} {ρ ρ' : List En} {σ σ' : L2.St} {P : Addr → Prop} {x y : V} {d e : D} {Q : VK}
theorem rd_tyx {K : PySem.W.Frag} {a : Addr} {xs : List V} (h : Rd H a (.lst xs)) : TyX K H (.ref a) (.type "list") := by
  rcases h with h | ⟨o, h⟩
  · exact .base (.lst h)
  · exact .base (.frz h)
theorem Vw.tyx {K : PySem.W.Frag} {t : Ty} (h : Vw T Z H x d) (ho : isiO t d ≠ none) : TyX K H x (.type (kiD d)) := by
  cases d with
  | non => obtain rfl := h.non; exact .base .non
  | bl b => obtain rfl := h.bl; exact .base (.bl b)
  | int i => obtain rfl := h.int; exact .base (.int i)
  | str s => obtain rfl := h.str; exact .base (.str s)
  | tup xs => obtain ⟨a, vs, rfl, h1, _⟩ := h.tup; exact .base (.tup h1)
  | lst xs => obtain ⟨a, vs, rfl, h1, _⟩ := h.lst; exact rd_tyx h1
  | dct t ks vs =>
    cases t with
    | true => exact absurd rfl ho
    | false =>
      obtain ⟨a, kvs, rfl, h1, _⟩ := h.dK
      rcases h1 with h1 | ⟨o, h1⟩
      · exact .base (.dK h1)
      · exact .fDict h1
  | fn k => exact absurd rfl ho
  | ins c fs => exact absurd rfl ho
theorem isi_ok {t : Ty} (r : Rel T Z ρ σ H) (hx : Vw T Z H x d) (h : P1 T W P Z H ρ σ (isiO t d) Q) : rIsi T.K [x, .ty (tyN t)] H Q := by
  have hn : isiO t d ≠ none := fun e => by rw [e] at h; exact h
  have e : isiO t d = some (.bl (isiD t d)) := by
    cases d with
    | dct b ks vs => cases b with
      | true => exact absurd rfl hn
      | false => rfl
    | fn k => exact absurd rfl hn
    | ins c fs => exact absurd rfl hn
    | _ => rfl
  rw [e] at h
  exact ⟨x, .ty (tyN t), .type (kiD d), .type (tyN t), isiD t d, rfl, .ty _, hx.tyx hn, kit_ty (kit_all t d hn), Pst.shr r h (.bl _)⟩
/-- the types that are tuples of ints: l.index(x) -/
theorem find_spec {e : D} : ∀ (ds : List D) (k j : Nat), findD e ds k = some j → ∃ i, j = k + i ∧ ∃ z, ds[i]? = some z ∧ D.eqb z e = true ∧ ∀ (m : Nat) (z' : D), m < i → ds[m]? = some z' → D.eqb z' e = false
  | [], _, _, h => nomatch h
  | d :: ds, k, j, h => by
    unfold findD at h
    cases q : D.eqb d e with
    | true =>
      rw [q] at h
      cases h
      exact ⟨0, rfl, d, rfl, q, fun m _ hm => absurd hm (Nat.not_lt_zero m)⟩
    | false =>
      rw [q] at h
      obtain ⟨i, h1, z, h2, h3, h4⟩ := find_spec ds (k + 1) j h
      refine ⟨i + 1, by omega, z, by simpa using h2, h3, fun m z' hm hz => ?_⟩
      cases m with
      | zero =>
        have hz : some d = some z' := hz
        cases hz
        exact q
      | succ m => exact h4 m z' (by omega) (by simpa using hz)
theorem pys_get : ∀ (ds : List D) (i : Nat), (D.pys ds)[i]? = (ds[i]?).map D.py
  | [], i => by simp [D.pys]
  | d :: ds, 0 => by simp [D.pys]
  | d :: ds, i + 1 => by
    simp only [D.pys, List.getElem?_cons_succ]
    exact pys_get ds i
theorem eqOks_get : ∀ {ds : List D} {i : Nat} {d : D}, D.eqOks ds = true → ds[i]? = some d → d.eqOk = true
  | [], _, _, _, h => by simp at h
  | d :: ds, 0, d', e, h => by
    have e := Bool.and_eq_true_iff.mp (show (_ && _) = true from e)
    have h : some d = some d' := h
    cases h
    exact e.1
  | d :: ds, i + 1, d', e, h => by
    have e := Bool.and_eq_true_iff.mp (show (_ && _) = true from e)
    exact eqOks_get e.2 (i := i) (by simpa using h)
theorem index_ok {xs : List D} (r : Rel T Z ρ σ H) (hx : Vw T Z H x (.lst xs)) (hy : Vw T Z H y e) (h : P2 T W P Z H ρ σ (mtD .index (.lst xs) [e]) Q) : rIndexD T.K x [y] H Q := by
  obtain ⟨c, h⟩ := p2_if (show P2 T W P Z H ρ σ (if (e.cmpOk && (D.lst xs).cmpOk) = true then (findD e xs 0).map fun (k : Nat) => (false, .int (k : Int)) else none) Q from h)
  rw [Bool.and_eq_true] at c
  have c1 := (Bool.and_eq_true_iff.mp (show (_ && _) = true from c.1)).1
  have c2 := (Bool.and_eq_true_iff.mp (show (_ && _) = true from c.2)).1
  obtain ⟨j, e1, h⟩ := p2_map h
  obtain ⟨i, e2, z, h2, h3, h4⟩ := find_spec xs 0 j e1
  rw [Nat.zero_add] at e2
  subst e2
  have hd := hx.dp c2
  obtain ⟨a, vs, rfl, _, _⟩ := hx.lst
  refine ⟨a, y, e.py, D.pys xs, j, z.py, rfl, rfl, hd, hy.dp c1, shaped_of hx c.2, shaped_of hy c.1, by rw [pys_get, h2]; rfl, ?_, fun m z' hm hz => ?_, Pst.shr r h (.int _)⟩
  · rw [D.eqv_py z e (eqOks_get c2 h2) c1]
    exact h3
  · rw [pys_get] at hz
    cases q : xs[m]? with
    | none => rw [q] at hz; cases hz
    | some w =>
      rw [q] at hz
      cases hz
      rw [D.eqv_py w e (eqOks_get c2 q) c1]
      exact h4 m w hm q
theorem get1_ok {t : Bool} {ks vs : List D} (r : Rel T Z ρ σ H) (hx : Vw T Z H x (.dct t ks vs)) (hy : Vw T Z H y e) (h : P2 T W P Z H ρ σ (mtD .get1 (.dct t ks vs) [e]) Q) : ∃ a, x = .ref a ∧ ∃ o, DGet H a y o ∧ Q (o.getD .non) H := by
  obtain ⟨c, h⟩ := p2_if (show P2 T W P Z H ρ σ (if keyFits t e = true then some (false, (lookD ks vs e).getD .non) else none) Q from h)
  obtain ⟨a, rfl, q⟩ := hx.look hy c
  rcases q with ⟨q1, _, q3⟩ | ⟨w, d', q1, _, q3, q4⟩
  · rw [q1] at h
    exact ⟨a, rfl, none, q3, Pst.shr r h .non⟩
  · rw [q1] at h
    exact ⟨a, rfl, some w, q3, Pst.shr r h q4⟩
theorem get2_ok {t : Bool} {ks vs : List D} {z : V} {f : D} (r : Rel T Z ρ σ H) (hx : Vw T Z H x (.dct t ks vs)) (hy : Vw T Z H y e) (hz : Vw T Z H z f) (h : P2 T W P Z H ρ σ (mtD .get2 (.dct t ks vs) [e, f]) Q) : ∃ a, x = .ref a ∧ ∃ o, DGet H a y o ∧ Q (o.getD z) H := by
  obtain ⟨c, h⟩ := p2_if (show P2 T W P Z H ρ σ (if (keyFits t e && f.flat) = true then some (false, (lookD ks vs e).getD f) else none) Q from h)
  rw [Bool.and_eq_true] at c
  have hz : Rp T Z H z f := by
    rcases hz with hz | ⟨b, _, hz⟩
    · exact hz
    · cases hz <;> cases c.2
  obtain ⟨a, rfl, q⟩ := hx.look hy c.1
  rcases q with ⟨q1, _, q3⟩ | ⟨w, d', q1, _, q3, q4⟩
  · rw [q1] at h
    exact ⟨a, rfl, none, q3, Pst.shr r h hz⟩
  · rw [q1] at h
    exact ⟨a, rfl, some w, q3, Pst.shr r h q4⟩
end
end G
set_option maxHeartbeats 4000000
/-! F10: expressions, step by step. -/
namespace G
open PySem L2 PySem.Spec PyProof.Rows
section
variable {T : Tb} {W : WX} {Z Z' : Addr → Prop} {H H' : Hp} {ρ ρ' : List En} {σ σ' : L2.St} {P : Addr → Prop} {x y : V} {d e : D} {Q : VK}
theorem VlR.go {v : V} {x : Vl} {E : Addr → Prop} (hv : VlR T Z H σ ρ v x) (r : Rel T Z ρ σ H) (g : Go T N0 Z H ρ σ Z' H' ρ' E) : VlR T Z' H' σ ρ' v x := hv.step g r.ok0 fun _ _ z => z
/-- two operands, an answer -/
theorem sp_op {fa fb : List En → Rs Vl} {r2 : R2} {k : D → D → Option (Bool × D)}
    (hk : ∀ (P Z : Addr → Prop) (H : Hp) (ρ : List En) (σ : L2.St) (x y : V) (d e : D) (Q : VK), Rel T Z ρ σ H → Vw T Z H x d → Vw T Z H y e → P2 T W P Z H ρ σ (k d e) Q → r2 x y H Q)
    {σ : L2.St} {H : Hp} {Q : VK} (h : Sp T W (fun ρ => (fa ρ).bd fun x ρ1 => (fb ρ1).bd fun y ρ2 => lift2 (k (rd x ρ2) (rd y ρ2)) ρ2) σ H Q) : tOp r2 (Sp T W fa) (Sp T W fb) σ H Q := by
  obtain ⟨Z, ρ, r, h⟩ := h
  refine ⟨Z, ρ, r, Pst.bind h fun v H1 x ρ1 Z1 _ g hv h1 => ?_⟩
  refine ⟨Z1, ρ1, g.rel, Pst.bind h1 fun w H2 y ρ2 Z2 _ g2 hw h2 => ?_⟩
  exact hk _ _ _ _ _ _ _ _ _ _ g2.rel ((hv.go g.rel g2).vw g2.rel) (hw.vw g2.rel) h2
theorem sp_op1 {fa fb : List En → Rs Vl} {r2 : R2} {k : D → D → Option D}
    (hk : ∀ (P Z : Addr → Prop) (H : Hp) (ρ : List En) (σ : L2.St) (x y : V) (d e : D) (Q : VK), Rel T Z ρ σ H → Vw T Z H x d → Vw T Z H y e → P1 T W P Z H ρ σ (k d e) Q → r2 x y H Q)
    {σ : L2.St} {H : Hp} {Q : VK} (h : Sp T W (fun ρ => (fa ρ).bd fun x ρ1 => (fb ρ1).bd fun y ρ2 => lift1 (k (rd x ρ2) (rd y ρ2)) ρ2) σ H Q) : tOp r2 (Sp T W fa) (Sp T W fb) σ H Q := by
  obtain ⟨Z, ρ, r, h⟩ := h
  refine ⟨Z, ρ, r, Pst.bind h fun v H1 x ρ1 Z1 _ g hv h1 => ?_⟩
  refine ⟨Z1, ρ1, g.rel, Pst.bind h1 fun w H2 y ρ2 Z2 _ g2 hw h2 => ?_⟩
  exact hk _ _ _ _ _ _ _ _ _ _ g2.rel ((hv.go g.rel g2).vw g2.rel) (hw.vw g2.rel) h2
/-- one operand, an answer -/
theorem sp_un {fa : List En → Rs Vl} {r1 : V → Hp → VK → Prop} {k : D → Option D}
    (hk : ∀ (P Z : Addr → Prop) (H : Hp) (ρ : List En) (σ : L2.St) (x : V) (d : D) (Q : VK), Rel T Z ρ σ H → Vw T Z H x d → P1 T W P Z H ρ σ (k d) Q → r1 x H Q)
    {σ : L2.St} {H : Hp} {Q : VK} (h : Sp T W (fun ρ => (fa ρ).bd fun x ρ1 => lift1 (k (rd x ρ1)) ρ1) σ H Q) : Sp T W fa σ H (fun x H1 => r1 x H1 Q) := by
  obtain ⟨Z, ρ, r, h⟩ := h
  exact ⟨Z, ρ, r, Pst.bind h fun v H1 x ρ1 Z1 _ g hv h1 => hk _ _ _ _ _ _ _ _ g.rel (hv.vw g.rel) h1⟩
theorem sp_un2 {fa : List En → Rs Vl} {r1 : V → Hp → VK → Prop} {k : D → Option (Bool × D)}
    (hk : ∀ (P Z : Addr → Prop) (H : Hp) (ρ : List En) (σ : L2.St) (x : V) (d : D) (Q : VK), Rel T Z ρ σ H → Vw T Z H x d → P2 T W P Z H ρ σ (k d) Q → r1 x H Q)
    {σ : L2.St} {H : Hp} {Q : VK} (h : Sp T W (fun ρ => (fa ρ).bd fun x ρ1 => lift2 (k (rd x ρ1)) ρ1) σ H Q) : Sp T W fa σ H (fun x H1 => r1 x H1 Q) := by
  obtain ⟨Z, ρ, r, h⟩ := h
  exact ⟨Z, ρ, r, Pst.bind h fun v H1 x ρ1 Z1 _ g hv h1 => hk _ _ _ _ _ _ _ _ g.rel (hv.vw g.rel) h1⟩
/-- a value as a test -/
theorem Pst.toB {β α : Type} {R : (Addr → Prop) → Hp → L2.St → List En → β → α → Prop} {O : β → α → Addr → Prop} {k : Bool → List En → Rs α} {Q : β → Hp → Prop} (h : Pst T W R O P Z H ρ σ ((toB d ρ).bd k) Q) : ∃ b, d = .bl b ∧ Pst T W R O P Z H ρ σ (k b ρ) Q := by
  cases d with
  | bl b => exact ⟨b, rfl, h⟩
  | _ => exact h.elim
theorem Pst.toI {β α : Type} {R : (Addr → Prop) → Hp → L2.St → List En → β → α → Prop} {O : β → α → Addr → Prop} {k : Int → List En → Rs α} {Q : β → Hp → Prop} (h : Pst T W R O P Z H ρ σ ((toI d ρ).bd k) Q) : ∃ i, d = .int i ∧ Pst T W R O P Z H ρ σ (k i ρ) Q := by
  cases d with
  | int b => exact ⟨b, rfl, h⟩
  | _ => exact h.elim
theorem Pst.bool {b : Bool} {Q : Bool → Hp → Prop} (r : Rel T Z ρ σ H) (h : Pst T W RB OB P Z H ρ σ (.ok b ρ) Q) : Q b H := Pst.val r h (v := b) (show b = b from rfl) fun _ z => z.elim
theorem spT_val {fa : List En → Rs Vl} {σ : L2.St} {H : Hp} {Q : Bool → Hp → Prop} (h : SpT T W (fun ρ => (fa ρ).bd fun x ρ1 => toB (rd x ρ1) ρ1) σ H Q) : Sp T W fa σ H (fun x H' => ∃ k, x = .bl k ∧ Q k H') := by
  obtain ⟨Z, ρ, r, h⟩ := h
  refine ⟨Z, ρ, r, Pst.bind h fun v H1 x ρ1 Z1 _ g hv h1 => ?_⟩
  have q := hv.vw g.rel
  generalize rd x ρ1 = d at q h1
  cases d with
  | bl b =>
    obtain rfl := q.bl
    exact ⟨b, rfl, Pst.bool g.rel h1⟩
  | _ => exact h1.elim
/-- .. by its truth -/
theorem Vw.tru {b : Bool} (hx : Vw T Z H x d) (h : truD d = some b) : TruV T.K x H b := by
  cases d with
  | non => obtain rfl := hx.non; cases h; rfl
  | bl c => obtain rfl := hx.bl; cases h; rfl
  | int i => obtain rfl := hx.int; cases h; rfl
  | str s =>
    obtain rfl := hx.str
    have h : (if szOk s.length = true then some (s.length != 0) else none) = some b := h
    cases c : szOk s.length with
    | false => rw [c] at h; cases h
    | true =>
      rw [c] at h
      cases h
      refine ⟨szOk_le c, ?_⟩
      rw [Bool.eq_iff_iff]
      simp
  | tup xs =>
    obtain ⟨a, vs, rfl, h1, h2⟩ := hx.tup
    cases h
    refine .inr (.inl ⟨vs, .of h1, ?_⟩)
    cases h2 <;> rfl
  | lst xs =>
    obtain ⟨a, vs, rfl, h1, h2⟩ := hx.lst
    cases h
    refine .inl ⟨vs, .inl h1, ?_⟩
    cases h2 <;> rfl
  | _ => cases h
theorem spT_tru {fa : List En → Rs Vl} {σ : L2.St} {H : Hp} {Q : Bool → Hp → Prop} (h : SpT T W (fun ρ => (fa ρ).bd fun x ρ1 => match truD (rd x ρ1) with
    | some b => .ok b ρ1
    | none => .no) σ H Q) : Sp T W fa σ H (fun x H' => ∃ k, TruV T.K x H' k ∧ Q k H') := by
  obtain ⟨Z, ρ, r, h⟩ := h
  refine ⟨Z, ρ, r, Pst.bind h fun v H1 x ρ1 Z1 _ g hv h1 => ?_⟩
  have q := hv.vw g.rel
  generalize rd x ρ1 = d at q h1
  cases e : truD d with
  | none => rw [e] at h1; exact h1.elim
  | some b =>
    rw [e] at h1
    exact ⟨b, q.tru e, Pst.bool g.rel h1⟩
/-! ### tests, bools -/
variable {ft fu : List En → Rs Bool} {fa fb fc : List En → Rs Vl}
theorem spT_not {σ : L2.St} {H : Hp} {Q : Bool → Hp → Prop} (h : SpT T W (fun ρ => (ft ρ).bd fun b ρ1 => .ok (!b) ρ1) σ H Q) : tNot (SpT T W ft) σ H Q := by
  obtain ⟨Z, ρ, r, h⟩ := h
  refine ⟨Z, ρ, r, Pst.bind h fun v H1 x ρ1 Z1 _ g hv h1 => ?_⟩
  have hv : v = x := hv
  subst hv
  exact Pst.bool g.rel h1
/-- a state's answer, from there on -/
theorem Pst.here {α β : Type} {R : (Addr → Prop) → Hp → L2.St → List En → β → α → Prop} {O : β → α → Addr → Prop} {f : List En → Rs α} {Q : β → Hp → Prop} {P : Addr → Prop} (h : Pst T W R O P Z H ρ σ (f ρ) Q) (hP : ∀ a, P a → False) : Pst T W R O N0 Z H ρ σ (f ρ) Q := by
  have e : P = N0 := funext fun a => propext ⟨hP a, False.elim⟩
  rw [e] at h
  exact h
theorem spT_and {σ : L2.St} {H : Hp} {Q : Bool → Hp → Prop} (h : SpT T W (fun ρ => (ft ρ).bd fun c ρ1 => if c then fu ρ1 else .ok false ρ1) σ H Q) : tAnd (SpT T W ft) (SpT T W fu) σ H Q := by
  obtain ⟨Z, ρ, r, h⟩ := h
  refine ⟨Z, ρ, r, Pst.bind h fun v H1 x ρ1 Z1 _ g hv h1 => ?_⟩
  have hv : v = x := hv
  subst hv
  cases v with
  | true => exact ⟨Z1, ρ1, g.rel, Pst.here (f := fu) h1 fun a z => z.elim id id⟩
  | false => exact Pst.bool g.rel h1
theorem spT_or {σ : L2.St} {H : Hp} {Q : Bool → Hp → Prop} (h : SpT T W (fun ρ => (ft ρ).bd fun c ρ1 => if c then .ok true ρ1 else fu ρ1) σ H Q) : tOr (SpT T W ft) (SpT T W fu) σ H Q := by
  obtain ⟨Z, ρ, r, h⟩ := h
  refine ⟨Z, ρ, r, Pst.bind h fun v H1 x ρ1 Z1 _ g hv h1 => ?_⟩
  have hv : v = x := hv
  subst hv
  cases v with
  | false => exact ⟨Z1, ρ1, g.rel, Pst.here (f := fu) h1 fun a z => z.elim id id⟩
  | true => exact Pst.bool g.rel h1
theorem sp_if {σ : L2.St} {H : Hp} {Q : VK} (h : Sp T W (fun ρ => (ft ρ).bd fun c ρ1 => if c then fa ρ1 else fb ρ1) σ H Q) : tIf (SpT T W ft) (Sp T W fa) (Sp T W fb) σ H Q := by
  obtain ⟨Z, ρ, r, h⟩ := h
  refine ⟨Z, ρ, r, Pst.bind h fun v H1 x ρ1 Z1 _ g hv h1 => ?_⟩
  have hv : v = x := hv
  subst hv
  cases v with
  | true => exact ⟨Z1, ρ1, g.rel, Pst.here (f := fa) h1 fun a z => z.elim id id⟩
  | false => exact ⟨Z1, ρ1, g.rel, Pst.here (f := fb) h1 fun a z => z.elim id id⟩
/-- a bool owns nothing -/
theorem Ov.bl {v : V} {x : Vl} {a : Addr} {b : Bool} (h : Ov v x a) (e : v = .bl b) : False := by
  obtain ⟨_, q⟩ := h
  rw [e] at q
  cases q
theorem sp_and {σ : L2.St} {H : Hp} {Q : VK} (h : Sp T W (fun ρ => (fa ρ).bd fun x ρ1 => (toB (rd x ρ1) ρ1).bd fun c ρ2 => if c then fb ρ2 else .ok (.da false (.bl false)) ρ2) σ H Q) : tAndV (Sp T W fa) (Sp T W fb) σ H Q := by
  obtain ⟨Z, ρ, r, h⟩ := h
  refine ⟨Z, ρ, r, Pst.bind h fun v H1 x ρ1 Z1 _ g hv h1 => ?_⟩
  have q := hv.vw g.rel
  obtain ⟨b, e, h1⟩ := Pst.toB h1
  rw [e] at q
  obtain rfl := q.bl
  refine ⟨b, rfl, ?_⟩
  cases b with
  | true => exact ⟨Z1, ρ1, g.rel, Pst.here (f := fb) h1 fun a z => z.elim (fun z => z.bl rfl) id⟩
  | false => exact Pst.shr g.rel h1 (.bl _)
theorem sp_or {σ : L2.St} {H : Hp} {Q : VK} (h : Sp T W (fun ρ => (fa ρ).bd fun x ρ1 => (toB (rd x ρ1) ρ1).bd fun c ρ2 => if c then .ok (.da false (.bl true)) ρ2 else fb ρ2) σ H Q) : tOrV (Sp T W fa) (Sp T W fb) σ H Q := by
  obtain ⟨Z, ρ, r, h⟩ := h
  refine ⟨Z, ρ, r, Pst.bind h fun v H1 x ρ1 Z1 _ g hv h1 => ?_⟩
  have q := hv.vw g.rel
  obtain ⟨b, e, h1⟩ := Pst.toB h1
  rw [e] at q
  obtain rfl := q.bl
  refine ⟨b, rfl, ?_⟩
  cases b with
  | false => exact ⟨Z1, ρ1, g.rel, Pst.here (f := fb) h1 fun a z => z.elim (fun z => z.bl rfl) id⟩
  | true => exact Pst.shr g.rel h1 (.bl _)
/-- a < b <= c -/
theorem sp_chain {r2 r2' : R2} {k k' : D → D → Option (Bool × D)}
    (hk : ∀ (P Z : Addr → Prop) (H : Hp) (ρ : List En) (σ : L2.St) (x y : V) (d e : D) (Q : VK), Rel T Z ρ σ H → Vw T Z H x d → Vw T Z H y e → P2 T W P Z H ρ σ (k d e) Q → r2 x y H Q)
    (hk' : ∀ (P Z : Addr → Prop) (H : Hp) (ρ : List En) (σ : L2.St) (x y : V) (d e : D) (Q : VK), Rel T Z ρ σ H → Vw T Z H x d → Vw T Z H y e → P2 T W P Z H ρ σ (k' d e) Q → r2' x y H Q)
    {σ : L2.St} {H : Hp} {Q : VK} (h : Sp T W (fun ρ => (fa ρ).bd fun x ρ1 => (fb ρ1).bd fun y ρ2 => (lift2 (k (rd x ρ2) (rd y ρ2)) ρ2).bd fun t ρ3 => (toB (rd t ρ3) ρ3).bd fun c ρ4 =>
      if c then (fc ρ4).bd fun z ρ5 => lift2 (k' (rd y ρ5) (rd z ρ5)) ρ5 else .ok (.da false (.bl false)) ρ4) σ H Q) : tChain r2 r2' (Sp T W fa) (Sp T W fb) (Sp T W fc) σ H Q := by
  obtain ⟨Z, ρ, r, h⟩ := h
  refine ⟨Z, ρ, r, Pst.bind h fun v H1 x ρ1 Z1 _ g hv h1 => ?_⟩
  refine ⟨Z1, ρ1, g.rel, Pst.bind h1 fun w H2 y ρ2 Z2 _ g2 hw h2 => ?_⟩
  have hv2 := hv.go g.rel g2
  refine hk N0 Z2 H2 ρ2 σ v w _ _ _ g2.rel (hv2.vw g2.rel) (hw.vw g2.rel) ?_
  refine Pst.bind (R := VlR T) (O := Ov) h2 fun u H3 t ρ3 Z3 e g3 ht h3 => ?_
  obtain ⟨c, e2, h3⟩ := Pst.toB h3
  have q := ht.vw g3.rel
  rw [e2] at q
  obtain rfl := q.bl
  refine ⟨c, rfl, ?_⟩
  cases c with
  | false => exact Pst.shr g3.rel h3 (.bl _)
  | true =>
    have h3 : Pst T W (VlR T) Ov _ Z3 H3 ρ3 σ ((fc ρ3).bd fun z ρ5 => lift2 (k' (rd y ρ5) (rd z ρ5)) ρ5) Q := h3
    rw [if_pos rfl]
    refine ⟨Z3, ρ3, g3.rel, Pst.bind h3 fun z H4 zz ρ4 Z4 _ g4 hz h4 => ?_⟩
    exact hk' _ _ _ _ _ _ _ _ _ _ g4.rel (((hw.go g2.rel g3).go g3.rel g4).vw g4.rel) (hz.vw g4.rel) h4
end
end G
set_option maxHeartbeats 4000000
/-! F11: names, arguments, displays, built-in calls. -/
namespace G
open PySem L2 PySem.Spec PyProof.Rows
section
variable {T : Tb} {W : WX} {Z Z' : Addr → Prop} {H H' : Hp} {ρ ρ' : List En} {σ σ' : L2.St} {P : Addr → Prop} {x y : V} {d e : D} {Q : VK}
theorem gv_some {i : Nat} {v : V} (h : gv σ i = some v) : σ[i]? = some (some v) := by
  unfold gv at h
  cases q : σ[i]? with
  | none => rw [q] at h; cases h
  | some o => rw [q] at h; cases o with
    | none => cases h
    | some w => cases h; rfl
theorem some_gv {i : Nat} {v : V} (h : σ[i]? = some (some v)) : gv σ i = some v := by
  unfold gv
  rw [h]
  rfl
theorem Pst.vwv {i : Nat} {v : V} (r : Rel T Z ρ σ H) (h : Pst T W (VlR T) Ov P Z H ρ σ (.ok (.vw i) ρ) Q) (hv : gv σ i = some v) (hd : ∃ w d, gt ρ i = .da w d) : Q v H :=
  Pst.val r h (v := v) (show VlR T Z H σ ρ v (.vw i) from ⟨hv, hd⟩) fun a z => by
    obtain ⟨⟨d', e⟩, _⟩ := z
    cases e
theorem sp_var {i : Nat} (h : Sp T W (fun ρ => varS i ρ) σ H Q) : tVar i σ H Q := by
  obtain ⟨Z, ρ, r, h⟩ := h
  have q := r.sl i
  have e : varS i ρ = match gt ρ i with
    | .da .s d => .ok (.da false d) ρ
    | .da _ _ => .ok (.vw i) ρ
    | _ => .no := rfl
  have h : Pst T W (VlR T) Ov N0 Z H ρ σ (varS i ρ) Q := h
  rw [e] at h
  cases hg : gt ρ i with
  | un => rw [hg] at h; exact h.elim
  | xc x => rw [hg] at h; exact h.elim
  | da w d =>
    rw [hg] at h q
    cases w with
    | s =>
      obtain ⟨v, e1, q⟩ := q
      exact ⟨v, gv_some e1, Pst.shr r h q⟩
    | o =>
      obtain ⟨a, e1, q⟩ := q
      exact ⟨.ref a, gv_some e1, Pst.vwv r h e1 ⟨_, _, hg⟩⟩
    | l =>
      obtain ⟨a, e1, q⟩ := q
      exact ⟨.ref a, gv_some e1, Pst.vwv r h e1 ⟨_, _, hg⟩⟩
theorem sp_c {v : V} (hv : ∀ (Z : Addr → Prop) (H : Hp), Rp T Z H v d) (h : Sp T W (fun ρ => .ok (.da false d) ρ) σ H Q) : tC v σ H Q := by
  obtain ⟨Z, ρ, r, h⟩ := h
  exact Pst.shr r h (hv Z H)
/-! ### a value goes to where it stays -/
theorem Rw.rp (h : Rw T Z H a d) (hz : ∀ x, Z x → Z' x) (ha : Z' a) : Rp T Z' H (.ref a) d := by
  have s : Stay Z Z' H H (fun _ => False) := ⟨fun _ _ h _ => h, hz⟩
  cases h with
  | lst h1 h2 => exact .lst ha (.inl h1) (RpL.stay s (fun _ z => z.elim) (fun _ z => z.elim) h2)
  | dK h1 h2 => exact .dK ha (.inl h1) (RpL.stay s (fun _ z => z.elim) (fun _ z => z.elim) h2)
  | dT h1 h2 => exact .dT ha (.inl h1) (RpL.stay s (fun _ z => z.elim) (fun _ z => z.elim) h2)
theorem SlR.frz {o : Option V} {e : En} (h : SlR T Z H o e) (hz : ∀ x, Z x → Z' x) : SlR T Z' H o e :=
  SlR.stay (O := fun _ => False) ⟨fun _ _ h _ => h, hz⟩ (fun _ z => z.elim) (fun _ z => z.elim) h fun _ _ _ _ _ _ z => z
theorem gt_set {i j : Nat} {e : En} : gt (ρ.set i e) j = if i = j ∧ i < ρ.length then e else gt ρ j := by
  unfold gt
  by_cases h : i = j
  · subst h
    by_cases hl : i < ρ.length
    · rw [List.getElem?_set_self hl, if_pos ⟨rfl, hl⟩]
      rfl
    · rw [if_neg (fun z => hl z.2), List.getElem?_eq_none (by rw [List.length_set]; omega), List.getElem?_eq_none (by omega)]
  · rw [List.getElem?_set_ne h, if_neg (fun z => h z.1)]
theorem gt_lt {i : Nat} {w : Ow} {d : D} (h : gt ρ i = .da w d) : i < ρ.length := by
  apply Nat.lt_of_not_le
  intro hl
  unfold gt at h
  rw [List.getElem?_eq_none hl] at h
  cases h
/-- a new thing, owned by none, is frozen -/
theorem frz_ok {v : V} {o : Bool} (r : Rel T Z ρ σ H) (hv : VlR T Z H σ ρ v (.da o d)) : ∃ Z', Go T (Ov v (.da o d)) Z H ρ σ Z' H ρ N0 ∧ Rp T Z' H v d := by
  cases o with
  | false => exact ⟨Z, (Go.reflP r).weak fun _ z => z.elim, hv⟩
  | true =>
    obtain ⟨a, rfl, hw, nz, no⟩ := hv
    refine ⟨fun x => Z x ∨ x = a, ⟨⟨fun _ _ h _ => h, fun _ h => h, fun _ h => .inl h, fun x h => ?_, fun x h => ?_⟩, ⟨r.len, fun i => (r.sl i).frz fun _ h => .inl h, r.sep, fun x h z => ?_, fun x h => ?_⟩, fun i w d h => ⟨w, d, h, id, id⟩⟩, hw.rp (fun _ h => .inl h) (.inr rfl)⟩
    · rcases h with h | h
      · exact .inl h
      · exact .inr (.inl (.inr ⟨⟨d, rfl⟩, by rw [h]⟩))
    · rcases h with h | h
      · exact .inl (.inl h)
      · exact h.elim
    · rcases z with z | z
      · exact r.zs x h z
      · rw [z] at h; exact no h
    · rcases h with h | h
      · exact r.zd x h
      · obtain ⟨u, hu, _⟩ := hw.obj
        rw [h, hu]
        exact fun z => nomatch z
/-- a slot's own object is frozen -/
theorem frz_slot {i : Nat} {v : V} (r : Rel T Z ρ σ H) (hg : gt ρ i = .da .o d) (hv : gv σ i = some v) : ∃ Z', Go T N0 Z H ρ σ Z' H (ρ.set i (.da .s d)) N0 ∧ Rp T Z' H v d := by
  have q := r.sl i
  rw [hg, hv] at q
  obtain ⟨a, e, hw⟩ := q
  cases e
  have hl := gt_lt hg
  have hown : Own ρ σ i a := ⟨⟨.o, d, hg, by decide⟩, hv⟩
  have back : ∀ j b, Own (ρ.set i (.da .s d)) σ j b → j ≠ i ∧ Own ρ σ j b := fun j b ⟨⟨w, d', e, hw'⟩, hv'⟩ => by
    rw [gt_set] at e
    by_cases q : i = j ∧ i < ρ.length
    · rw [if_pos q] at e
      cases e
      exact absurd rfl hw'
    · rw [if_neg q] at e
      exact ⟨fun z => q ⟨z.symm, hl⟩, ⟨w, d', e, hw'⟩, hv'⟩
  refine ⟨fun x => Z x ∨ x = a, ⟨⟨fun _ _ h _ => h, fun _ h => h, fun _ h => .inl h, fun x h => ?_, fun x h => ?_⟩, ⟨by rw [List.length_set]; exact r.len, fun j => ?_, fun j k b h1 h2 => r.sep j k b (back j b h1).2 (back k b h2).2, fun x h z => ?_, fun x h => ?_⟩, fun j w d' h => ?_⟩, hw.rp (fun _ h => .inl h) (.inr rfl)⟩
  · rcases h with h | h
    · exact .inl h
    · exact .inr (.inl (.inl ⟨i, by rw [h]; exact hown⟩))
  · rcases h with ⟨j, h⟩ | h
    · exact .inl (.inl ⟨j, (back j x h).2⟩)
    · exact h.elim
  · rw [gt_set]
    by_cases q : i = j ∧ i < ρ.length
    · rw [if_pos q]
      obtain ⟨rfl, _⟩ := q
      exact ⟨_, hv, hw.rp (fun _ h => .inl h) (.inr rfl)⟩
    · rw [if_neg q]
      exact (r.sl j).frz fun _ h => .inl h
  · obtain ⟨j, h⟩ := h
    obtain ⟨h1, h2⟩ := back j x h
    rcases z with z | z
    · exact r.zs x ⟨j, h2⟩ z
    · rw [z] at h2
      exact h1 (r.sep j i a h2 hown)
  · rcases h with h | h
    · exact r.zd x h
    · obtain ⟨u, hu, _⟩ := hw.obj
      rw [h, hu]
      exact fun z => nomatch z
  · rw [gt_set]
    by_cases q : i = j ∧ i < ρ.length
    · rw [if_pos q]
      obtain ⟨rfl, _⟩ := q
      rw [hg] at h
      cases h
      exact ⟨.s, d, rfl, (nomatch ·), (nomatch ·)⟩
    · rw [if_neg q]
      exact ⟨w, d', h, id, id⟩
/-- .. with what it owns -/
theorem esc_ok {v : V} {xv : Vl} {o : Bool} (r : Rel T Z ρ σ H) (hv : VlR T Z H σ ρ v xv) (h : esc xv ρ = .ok (o, d) ρ') : ∃ Z', Go T (Ov v xv) Z H ρ σ Z' H ρ' (Ov v (.da o d)) ∧ VlR T Z' H σ ρ' v (.da o d) := by
  cases xv with
  | da o' d' =>
    cases h
    exact ⟨Z, Go.reflP r, hv⟩
  | vw i =>
    obtain ⟨h1, w, d', h2⟩ := hv
    have h : (match gt ρ i with
      | .da .o d => Rs.ok (false, d) (ρ.set i (.da .s d))
      | .da .s d => .ok (false, d) ρ
      | _ => .no) = .ok (o, d) ρ' := h
    rw [h2] at h
    cases w with
    | o =>
      cases h
      obtain ⟨Z', g, q⟩ := frz_slot r h2 h1
      exact ⟨Z', (g.pre fun _ z => z.elim).weak (fun a (z : Ov v (.da false d) a) => by obtain ⟨⟨_, e⟩, _⟩ := z; cases e), q⟩
    | s =>
      cases h
      have q := r.sl i
      rw [h1, h2] at q
      obtain ⟨v', e, q⟩ := q
      cases e
      exact ⟨Z, (Go.reflP r).weak (fun a (z : Ov v (.da false d) a) => by obtain ⟨⟨_, e⟩, _⟩ := z; cases e), q⟩
    | l => cases h
theorem esc_noex {xv : Vl} {xx : Xc} : esc xv ρ ≠ .ex xx ρ' := fun h => by
  cases xv with
  | da o d => cases h
  | vw i =>
    have h : (match gt ρ i with
      | .da .o d => Rs.ok (false, d) (ρ.set i (.da .s d))
      | .da .s d => .ok (false, d) ρ
      | _ => .no) = .ex xx ρ' := h
    cases q : gt ρ i with
    | un => rw [q] at h; cases h
    | xc _ => rw [q] at h; cases h
    | da w d => rw [q] at h; cases w <;> cases h
/-- .. frozen -/
theorem escf_ok {v : V} {xv : Vl} {o : Bool} (r : Rel T Z ρ σ H) (hv : VlR T Z H σ ρ v xv) (h : esc xv ρ = .ok (o, d) ρ') : ∃ Z', Go T (Ov v xv) Z H ρ σ Z' H ρ' N0 ∧ Rp T Z' H v d := by
  obtain ⟨Z1, g1, h1⟩ := esc_ok r hv h
  obtain ⟨Z2, g2, h2⟩ := frz_ok g1.rel h1
  exact ⟨Z2, g1.trans g2, h2⟩
theorem Ovs.nil {a : Addr} : ¬ Ovs [] [] a := fun ⟨_, _, h, _⟩ => nomatch h
theorem Ovs.cons {v : V} {xv : Vl} {vs : List V} {xs : List Vl} {a : Addr} : Ovs (v :: vs) (xv :: xs) a ↔ Ov v xv a ∨ Ovs vs xs a := by
  constructor
  · rintro ⟨w, y, hm, ho⟩
    rcases List.mem_cons.mp (show (w, y) ∈ (v, xv) :: vs.zip xs from hm) with e | hm
    · cases e; exact .inl ho
    · exact .inr ⟨w, y, hm, ho⟩
  · rintro (ho | ⟨w, y, hm, ho⟩)
    · exact ⟨v, xv, List.mem_cons_self, ho⟩
    · exact ⟨w, y, List.mem_cons_of_mem _ hm, ho⟩
theorem VlsR.length : ∀ {vs : List V} {xs : List Vl}, VlsR T Z H σ ρ vs xs → vs.length = xs.length
  | _, _, .nil => rfl
  | _, _, .cons _ t _ => congrArg (· + 1) (VlsR.length t)
theorem VlsR.okV : ∀ {vs : List V} {xs : List Vl}, VlsR T Z H σ ρ vs xs → Ok Z H (Ovs vs xs)
  | _, _, .nil => fun a z => (Ovs.nil z).elim
  | _, _, .cons h t _ => fun a z => (Ovs.cons.mp z).elim (h.okV a) (VlsR.okV t a)
/-- values are as they were behind a step that does not touch them -/
theorem VlsR.step {P E : Addr → Prop} (n : Go T P Z H ρ σ Z' H' ρ' E) (ok : Ok Z H fun a => Os ρ σ a ∨ P a) : ∀ {vs : List V} {xs : List Vl}, VlsR T Z H σ ρ vs xs → (∀ a, Ovs vs xs a → ¬ P a) → VlsR T Z' H' σ ρ' vs xs
  | _, _, .nil, _ => .nil
  | _, _, .cons h t s, hn => .cons (h.step n ok fun a z => hn a (Ovs.cons.mpr (.inl z))) (VlsR.step n ok t fun a z => hn a (Ovs.cons.mpr (.inr z))) s
theorem escs_ok : ∀ {vs : List V} {xs : List Vl} {ds : List D} {Z : Addr → Prop} {ρ ρ' : List En}, Rel T Z ρ σ H → VlsR T Z H σ ρ vs xs → escs xs ρ = .ok ds ρ' → ∃ Z', Go T (Ovs vs xs) Z H ρ σ Z' H ρ' N0 ∧ RpL T Z' H vs ds
  | _, _, _, Z, ρ, ρ', r, .nil, h => by
    cases h
    exact ⟨Z, (Go.reflP r).weak fun _ z => z.elim, .nil⟩
  | _, _, ds, Z, ρ, ρ', r, .cons (v := v) (x := xv) (vs := vs) (xs := xs) hv t s, h => by
    obtain ⟨⟨o, d⟩, ρ1, e1, h⟩ := Rs.bd_eq_ok (show ((esc xv ρ).bd fun d ρ1 => (escs xs ρ1).bd fun ds ρ2 => .ok (d.2 :: ds) ρ2) = .ok ds ρ' from h)
    obtain ⟨ds', ρ2, e2, h⟩ := Rs.bd_eq_ok h
    cases h
    obtain ⟨Z1, g1, h1⟩ := escf_ok r hv e1
    have okP : Ok Z H fun a => Os ρ σ a ∨ Ov v xv a := r.okO.or hv.okV
    have t1 : VlsR T Z1 H σ ρ1 vs xs := t.step g1 okP fun a ⟨w, y, hm, ho⟩ z => s a z w y hm ho
    obtain ⟨Z2, g2, h2⟩ := escs_ok g1.rel t1 e2
    refine ⟨Z2, ((g1.frame (F := Ovs vs xs)).trans (g2.pre fun a z => .inr z)).pre fun a z => ?_, .cons (g2.nx.rp (g1.rel.okO.or t1.okV) h1) h2⟩
    exact Ovs.cons.mpr z
theorem escs_noex : ∀ {xs : List Vl} {ρ ρ' : List En} {xx : Xc}, escs xs ρ ≠ .ex xx ρ'
  | [], _, _, _, h => nomatch h
  | xv :: xs, ρ, ρ', xx, h => by
    have h : ((esc xv ρ).bd fun d ρ1 => (escs xs ρ1).bd fun ds ρ2 => .ok (d.2 :: ds) ρ2) = .ex xx ρ' := h
    cases e : esc xv ρ with
    | no => rw [e] at h; cases h
    | ex y ρ1 => exact esc_noex e
    | ok p ρ1 =>
      rw [e] at h
      have h : ((escs xs ρ1).bd fun ds ρ2 => .ok (p.2 :: ds) ρ2) = .ex xx ρ' := h
      cases e2 : escs xs ρ1 with
      | no => rw [e2] at h; cases h
      | ex y ρ2 => exact escs_noex e2
      | ok q ρ2 => rw [e2] at h; cases h
/-- pure steps -/
theorem Pst.step {α β : Type} {R : (Addr → Prop) → Hp → L2.St → List En → β → α → Prop} {O : β → α → Addr → Prop} {res : Rs α} {Q : β → Hp → Prop} {E : Addr → Prop} (h : Pst T W R O P Z H ρ σ res Q) (g : Go T P Z H ρ σ Z' H' ρ' E) : Pst T W R O E Z' H' ρ' σ res Q := by
  cases res with
  | no => exact h
  | ex x ρ1 => exact fun c d H1 Z1 g1 hx => h c d H1 Z1 (g.trans g1) hx
  | ok x ρ1 => exact fun v H1 Z1 g1 hv => h v H1 Z1 (g.trans g1) hv
end
end G
set_option maxHeartbeats 4000000
/-! F12: argument lists, displays, calls. -/
namespace G
open PySem L2 PySem.Spec PyProof.Rows
section
variable {T : Tb} {W : WX} {Z Z' : Addr → Prop} {H H' : Hp} {ρ ρ' : List En} {σ σ' : L2.St} {P : Addr → Prop} {x y : V} {d e : D} {Q : VK}
theorem VlR.obj {v : V} {xv : Vl} {a : Addr} (h : VlR T Z H σ ρ v xv) (ho : Ov v xv a) : H a ≠ none := by
  obtain ⟨_, u, e, _⟩ := h.okV a ho
  rw [e]
  exact fun z => nomatch z
theorem spA_nil {Q : List V → Hp → Prop} (h : SpA T W (fun ρ => .ok [] ρ) σ H Q) : tNil σ H Q := by
  obtain ⟨Z, ρ, r, h⟩ := h
  exact Pst.val r h (v := []) .nil fun a z => (Ovs.nil z).elim
theorem spA_cons {fa : List En → Rs Vl} {fs : List En → Rs (List Vl)} {Q : List V → Hp → Prop} (h : SpA T W (fun ρ => (fa ρ).bd fun v ρ1 => (fs ρ1).bd fun vs ρ2 => .ok (v :: vs) ρ2) σ H Q) : tCons (Sp T W fa) (SpA T W fs) σ H Q := by
  obtain ⟨Z, ρ, r, h⟩ := h
  refine ⟨Z, ρ, r, Pst.bind h fun v H1 x ρ1 Z1 _ g hv h1 => ?_⟩
  refine ⟨Z1, ρ1, g.rel, Pst.bind h1 fun ws H2 ys ρ2 Z2 _ g2 hw h2 => ?_⟩
  refine Pst.val g2.rel h2 (v := v :: ws) (.cons (hv.go g.rel g2) hw fun a ha w y hm ho => ?_) fun a z => ?_
  · rcases g2.nx.on a (.inr ⟨w, y, hm, ho⟩) with z | z
    · exact z.elim (hv.nos a ha) id
    · exact hv.obj ha z
  · rcases Ovs.cons.mp z with z | z
    · exact .inr (.inl z)
    · exact .inl z
/-- what follows a list of escapes -/
theorem Pst.escs {β α : Type} {R : (Addr → Prop) → Hp → L2.St → List En → β → α → Prop} {O : β → α → Addr → Prop} {k : List D → List En → Rs α} {Q : β → Hp → Prop} {vs : List V} {xs : List Vl} (r : Rel T Z ρ σ H) (hv : VlsR T Z H σ ρ vs xs)
    (h : Pst T W R O P Z H ρ σ ((G.escs xs ρ).bd k) Q) (hP : ∀ a, Ovs vs xs a → P a) : ∃ ds ρ' Z', Rel T Z' ρ' σ H ∧ RpL T Z' H vs ds ∧ Pst T W R O N0 Z' H ρ' σ (k ds ρ') Q := by
  cases e : G.escs xs ρ with
  | no => rw [e] at h; exact h.elim
  | ex y ρ2 => exact (escs_noex e).elim
  | ok ds ρ2 =>
    rw [e] at h
    obtain ⟨Z', g, q⟩ := escs_ok r hv e
    exact ⟨ds, ρ2, Z', g.rel, q, Pst.step h (g.pre hP)⟩
theorem Pst.ifz {β α : Type} {R : (Addr → Prop) → Hp → L2.St → List En → β → α → Prop} {O : β → α → Addr → Prop} {c : Bool} {res : Rs α} {Q : β → Hp → Prop} (h : Pst T W R O P Z H ρ σ (if c = true then res else .no) Q) : c = true ∧ Pst T W R O P Z H ρ σ res Q := by
  cases c with
  | false => exact h.elim
  | true => exact ⟨rfl, h⟩
variable {fs : List En → Rs (List Vl)} {fa fb : List En → Rs Vl}
theorem sp_tup (h : Sp T W (fun ρ => (fs ρ).bd fun vs ρ1 => (escs vs ρ1).bd fun ds ρ2 => if szOk ds.length then .ok (.da false (.tup ds)) ρ2 else .no) σ H Q) : tTup (SpA T W fs) σ H Q := by
  obtain ⟨Z, ρ, r, h⟩ := h
  refine ⟨Z, ρ, r, Pst.bind h fun vs H1 xs ρ1 Z1 _ g hv h1 => ?_⟩
  obtain ⟨ds, ρ2, Z2, r2, q, h2⟩ := Pst.escs g.rel hv h1 fun a z => .inl z
  obtain ⟨c, h2⟩ := Pst.ifz h2
  exact ⟨by rw [q.length]; exact szOk_le c, fun p hp => Pst.newT r2 h2 hp q⟩
theorem sp_lst (h : Sp T W (fun ρ => (fs ρ).bd fun vs ρ1 => (escs vs ρ1).bd fun ds ρ2 => if szOk ds.length then .ok (.da true (.lst ds)) ρ2 else .no) σ H Q) : tLst (SpA T W fs) σ H Q := by
  obtain ⟨Z, ρ, r, h⟩ := h
  refine ⟨Z, ρ, r, Pst.bind h fun vs H1 xs ρ1 Z1 _ g hv h1 => ?_⟩
  obtain ⟨ds, ρ2, Z2, r2, q, h2⟩ := Pst.escs g.rel hv h1 fun a z => .inl z
  obtain ⟨c, h2⟩ := Pst.ifz h2
  exact ⟨by rw [q.length]; exact szOk_le c, fun p hp => Pst.newO r2 h2 hp (Rw.newL hp q)⟩
theorem sp_bi {b : Bi} (hb : biOk b = true) (h : Sp T W (fun ρ => (fs ρ).bd fun vs ρ1 => lift2 (biD b (vs.map fun v => rd v ρ1)) ρ1) σ H Q) : tCB (biR T.K b) (SpA T W fs) σ H Q := by
  obtain ⟨Z, ρ, r, h⟩ := h
  refine ⟨Z, ρ, r, Pst.bind h fun vs H1 xs ρ1 Z1 _ g hv h1 => ?_⟩
  exact bi_ok hb g.rel (hv.vw g.rel) h1
/-- list(range(a, b)) -/
theorem rngL_rp (a b : Int) : RpL T Z H (rgV a b) (rngL a b) := by
  unfold rgV rngL
  have : ∀ l : List Nat, RpL T Z H (l.map fun (i : Nat) => V.int (a + (i : Nat))) (l.map fun (i : Nat) => D.int (a + i)) := by
    intro l
    induction l with
    | nil => exact .nil
    | cons i r ih => exact .cons (.int _) ih
  exact this _
theorem rng_ok {a b : Int} (h : (rngOk a b && szOk (b - a).toNat) = true) : RgOk a b := by
  simp only [rngOk, Bool.and_eq_true, decide_eq_true_eq] at h
  have q := szOk_le h.2
  rw [sizeLine_eq] at q
  obtain ⟨⟨h1, h2⟩, h3⟩ := h
  exact ⟨by omega, by omega, by omega, by omega, by omega⟩
theorem sp_rg1 (h : Sp T W (fun ρ => (fs ρ).bd fun vs ρ1 => lift2 (biD .lrng1 (vs.map fun v => rd v ρ1)) ρ1) σ H Q) (hf : ∀ ρ, fs ρ = (fa ρ).bd fun v ρ1 => .ok [v] ρ1) : tLstRg (tRg1 (Sp T W fa)) σ H Q := by
  obtain ⟨Z, ρ, r, h⟩ := h
  have h : Pst T W (VlR T) Ov N0 Z H ρ σ ((fs ρ).bd fun vs ρ1 => lift2 (biD .lrng1 (vs.map fun v => rd v ρ1)) ρ1) Q := h
  rw [hf ρ] at h
  have h : Pst T W (VlR T) Ov N0 Z H ρ σ ((fa ρ).bd fun v ρ1 => lift2 (biD .lrng1 [rd v ρ1]) ρ1) Q := by
    revert h
    cases fa ρ <;> exact id
  refine ⟨Z, ρ, r, Pst.bind h fun v H1 x ρ1 Z1 _ g hv h1 => ?_⟩
  have q := hv.vw g.rel
  generalize rd x ρ1 = d at q h1
  cases d with
  | int i =>
    obtain rfl := q.int
    obtain ⟨c, h1⟩ := p2_if h1
    refine ⟨i, rfl, rng_ok (by rw [Int.sub_zero]; exact c), fun p hp => Pst.newO g.rel h1 hp (Rw.newL hp (rngL_rp _ _))⟩
  | _ => exact h1.elim
theorem sp_rg2 (h : Sp T W (fun ρ => (fs ρ).bd fun vs ρ1 => lift2 (biD .lrng2 (vs.map fun v => rd v ρ1)) ρ1) σ H Q) (hf : ∀ ρ, fs ρ = (fa ρ).bd fun v ρ1 => (fb ρ1).bd fun w ρ2 => .ok [v, w] ρ2) : tLstRg (tRg2 (Sp T W fa) (Sp T W fb)) σ H Q := by
  obtain ⟨Z, ρ, r, h⟩ := h
  have h : Pst T W (VlR T) Ov N0 Z H ρ σ ((fs ρ).bd fun vs ρ1 => lift2 (biD .lrng2 (vs.map fun v => rd v ρ1)) ρ1) Q := h
  rw [hf ρ] at h
  have h : Pst T W (VlR T) Ov N0 Z H ρ σ ((fa ρ).bd fun v ρ1 => (fb ρ1).bd fun w ρ2 => lift2 (biD .lrng2 [rd v ρ2, rd w ρ2]) ρ2) Q := by
    revert h
    cases fa ρ with
    | no => exact id
    | ex x ρ1 => exact id
    | ok x ρ1 =>
      show Pst T W (VlR T) Ov N0 Z H ρ σ ((((fb ρ1).bd fun w ρ2 => .ok [x, w] ρ2)).bd _) Q → Pst T W (VlR T) Ov N0 Z H ρ σ ((fb ρ1).bd _) Q
      cases fb ρ1 <;> exact id
  refine ⟨Z, ρ, r, Pst.bind h fun v H1 x ρ1 Z1 _ g hv h1 => ?_⟩
  refine ⟨Z1, ρ1, g.rel, Pst.bind h1 fun w H2 y ρ2 Z2 _ g2 hw h2 => ?_⟩
  have q := (hv.go g.rel g2).vw g2.rel
  have q' := hw.vw g2.rel
  generalize rd x ρ2 = d at q h2
  generalize rd y ρ2 = e at q' h2
  cases d with
  | int i =>
    cases e with
    | int j =>
      obtain rfl := q.int
      obtain rfl := q'.int
      obtain ⟨c, h2⟩ := p2_if h2
      exact ⟨i, j, rfl, rfl, rng_ok c, fun p hp => Pst.newO g2.rel h2 hp (Rw.newL hp (rngL_rp _ _))⟩
    | _ => exact h2.elim
  | _ => cases e <;> exact h2.elim
theorem sp_isi {t : Ty} (h : Sp T W (fun ρ => (fa ρ).bd fun x ρ1 => lift1 (isiO t (rd x ρ1)) ρ1) σ H Q) : tCB (rIsi T.K) (tCons (Sp T W fa) (tCons (tC (.ty (tyN t))) tNil)) σ H Q :=
  sp_un (r1 := fun x H Q => rIsi T.K [x, .ty (tyN t)] H Q) (k := isiO t) (fun _ _ _ _ _ _ _ _ r hx h => isi_ok r hx h) h
theorem sp_dnew {t : Bool} (h : Sp T W (fun ρ => .ok (.da true (.dct t [] [])) ρ) σ H Q) : ∀ p, H p = none → Q (.ref p) (upd H p (if t then .dT [] else .dK [])) := by
  obtain ⟨Z, ρ, r, h⟩ := h
  intro p hp
  refine Pst.newO r h hp ?_
  cases t with
  | true => exact .dT (kvs := []) upd_same .nil
  | false => exact .dK (kvs := []) upd_same .nil
/-! ### slices -/
def RO : (Addr → Prop) → Hp → L2.St → List En → Option Int → Option Int → Prop := fun _ _ _ _ a b => a = b
def SpO (T : Tb) (W : WX) (f : List En → Rs (Option Int)) : TO := fun σ H Q => ∃ Z ρ, Rel T Z ρ σ H ∧ Pst T W RO OB N0 Z H ρ σ (f ρ) Q
theorem PO.imp {X : Cx} {e : Option Expr} {t t' : TO} (h : PO X e t) (i : ∀ σ H Q, t' σ H Q → t σ H Q) : PO X e t' := ⟨fun pins s σ H Q I q => h.run pins s σ H Q I (i σ H Q q)⟩
theorem spO_no {Q : Option Int → Hp → Prop} (h : SpO T W (fun ρ => .ok none ρ) σ H Q) : tNoPart σ H Q := by
  obtain ⟨Z, ρ, r, h⟩ := h
  exact Pst.val r h (v := none) rfl fun _ z => z.elim
theorem spO_so {Q : Option Int → Hp → Prop} (h : SpO T W (fun ρ => (fa ρ).bd fun x ρ1 => (toI (rd x ρ1) ρ1).bd fun i ρ2 => .ok (some i) ρ2) σ H Q) : tPart (Sp T W fa) σ H Q := by
  obtain ⟨Z, ρ, r, h⟩ := h
  refine ⟨Z, ρ, r, Pst.bind h fun v H1 x ρ1 Z1 _ g hv h1 => ?_⟩
  obtain ⟨i, e, h1⟩ := Pst.toI h1
  have q := hv.vw g.rel
  rw [e] at q
  obtain rfl := q.int
  exact ⟨i, rfl, Pst.val g.rel h1 (v := some i) rfl fun _ z => z.elim⟩
theorem sp_sl {fl fh : List En → Rs (Option Int)} (h : Sp T W (fun ρ => (fa ρ).bd fun x ρ1 => (fl ρ1).bd fun l ρ2 => (fh ρ2).bd fun u ρ3 => lift2 (slD (rd x ρ3) l u) ρ3) σ H Q) : tSl (rSl2 T.K) (Sp T W fa) (SpO T W fl) (SpO T W fh) σ H Q := by
  obtain ⟨Z, ρ, r, h⟩ := h
  refine ⟨Z, ρ, r, Pst.bind h fun v H1 x ρ1 Z1 _ g hv h1 => ?_⟩
  refine ⟨Z1, ρ1, g.rel, Pst.bind h1 fun w H2 y ρ2 Z2 _ g2 hw h2 => ?_⟩
  refine ⟨Z2, ρ2, g2.rel, Pst.bind h2 fun u H3 z ρ3 Z3 _ g3 hu h3 => ?_⟩
  have hw : w = y := hw
  have hu : u = z := hu
  subst hw hu
  exact sl_ok g3.rel (((hv.go g.rel g2).go g2.rel g3).vw g3.rel) h3
end
end G
set_option maxHeartbeats 4000000
/-! F13: what changes an owned object; methods. -/
namespace G
open PySem L2 PySem.Spec PyProof.Rows
section
variable {T : Tb} {W : WX} {Z Z' : Addr → Prop} {H H' : Hp} {ρ ρ' : List En} {σ σ' : L2.St} {P : Addr → Prop} {x y : V} {d e : D} {Q : VK}
/-- the object of an owned slot is changed -/
theorem mut_ok {i : Nat} {a : Addr} {w : Ow} {d d' : D} {o : HO} (r : Rel T Z ρ σ H) (hg : gt ρ i = .da w d) (hw : w ≠ .s) (hv : gv σ i = some (.ref a)) (hn : Rw T Z H a d → RpL T Z H [] [] → Rw T Z (upd H a o) a d') :
    Go T N0 Z H ρ σ Z (upd H a o) (ρ.set i (.da w d')) N0 := by
  have hl := gt_lt hg
  have hown : Own ρ σ i a := ⟨⟨w, d, hg, hw⟩, hv⟩
  have q := r.sl i
  rw [hg] at q
  obtain ⟨b, e, hrw⟩ := q.own hw
  rw [hv] at e
  cases e
  obtain ⟨u, hu, hm⟩ := hrw.obj
  have hnew := hn hrw .nil
  have hza : ¬ Z a := r.zs a ⟨i, hown⟩
  have keep : ∀ b o', H b = some o' → b ≠ a → upd H a o b = some o' := fun b o' h n => by rw [upd_ne n]; exact h
  have st : Stay Z Z H (upd H a o) (fun b => b = a) := ⟨fun b o' h n => keep b o' h n, fun _ h => h⟩
  have hO1 : ∀ b, b = a → ¬ Z b := fun b e => by rw [e]; exact hza
  have hO2 : ∀ b, b = a → ∃ o, H b = some o ∧ Mo o := fun b e => by rw [e]; exact ⟨u, hu, hm⟩
  have back : ∀ j b, Own (ρ.set i (.da w d')) σ j b → Own ρ σ j b := fun j b ⟨⟨w2, d2, e, hw2⟩, hv2⟩ => by
    rw [gt_set] at e
    by_cases q : i = j ∧ i < ρ.length
    · rw [if_pos q] at e
      obtain ⟨rfl, _⟩ := q
      cases e
      exact ⟨⟨w, d, hg, hw⟩, hv2⟩
    · rw [if_neg q] at e
      exact ⟨⟨w2, d2, e, hw2⟩, hv2⟩
  refine ⟨⟨fun b o' h n => keep b o' h fun e => n (.inl ⟨i, by rw [e]; exact hown⟩), fun b h => ?_, fun _ h => h, fun _ h => .inl h, fun b h => ?_⟩, ⟨by rw [List.length_set]; exact r.len, fun j => ?_, fun j k b h1 h2 => r.sep j k b (back j b h1) (back k b h2), fun b ⟨j, h⟩ => r.zs b ⟨j, back j b h⟩, fun b h => ?_⟩, fun j w2 d2 h => ?_⟩
  · by_cases e : b = a
    · rw [e, upd_same] at h; cases h
    · rw [upd_ne e] at h; exact h
  · rcases h with ⟨j, h⟩ | h
    · exact .inl (.inl ⟨j, back j b h⟩)
    · exact h.elim
  · rw [gt_set]
    by_cases q : i = j ∧ i < ρ.length
    · rw [if_pos q]
      obtain ⟨rfl, _⟩ := q
      rw [hv]
      cases w with
      | s => exact absurd rfl hw
      | o => exact ⟨a, rfl, hnew⟩
      | l => exact ⟨a, rfl, hnew⟩
    · rw [if_neg q]
      refine (r.sl j).stay st hO1 hO2 fun w2 d2 b h1 h2 h3 h4 => ?_
      have : j = i := r.sep j i a ⟨⟨w2, d2, h1, h2⟩, by rw [h3, h4]⟩ hown
      exact q ⟨this.symm, hl⟩
  · by_cases e : b = a
    · rw [e, upd_same]; exact fun z => nomatch z
    · rw [upd_ne e]; exact r.zd b h
  · rw [gt_set]
    by_cases q : i = j ∧ i < ρ.length
    · rw [if_pos q]
      obtain ⟨rfl, _⟩ := q
      rw [hg] at h
      cases h
      exact ⟨w, d', rfl, id, id⟩
    · rw [if_neg q]
      exact ⟨w2, d2, h, id, id⟩
/-- an owned list -/
theorem own_list {i : Nat} {w : Ow} {ds : List D} (r : Rel T Z ρ σ H) (hg : gt ρ i = .da w (.lst ds)) (hw : w ≠ .s) : ∃ a vs, gv σ i = some (.ref a) ∧ H a = some (.lst vs) ∧ RpL T Z H vs ds := by
  have q := r.sl i
  rw [hg] at q
  obtain ⟨a, e, h⟩ := q.own hw
  cases h with
  | lst h1 h2 => exact ⟨a, _, e, h1, h2⟩
theorem rpL_mut {a : Addr} {o : HO} (r : Rel T Z ρ σ H) (ha : Os ρ σ a) {vs : List V} {ds : List D} (h : RpL T Z H vs ds) : RpL T Z (upd H a o) vs ds :=
  RpL.stay (O := fun b => b = a) ⟨fun b o' h n => by rw [upd_ne n]; exact h, fun _ h => h⟩ (fun b e => by rw [e]; exact r.zs a ha) (fun b e => by rw [e]; exact r.osH ha) h
theorem rp_mut {a : Addr} {o : HO} (r : Rel T Z ρ σ H) (ha : Os ρ σ a) {v : V} {d : D} (h : Rp T Z H v d) : Rp T Z (upd H a o) v d :=
  Rp.stay (O := fun b => b = a) ⟨fun b o' h n => by rw [upd_ne n]; exact h, fun _ h => h⟩ (fun b e => by rw [e]; exact r.zs a ha) (fun b e => by rw [e]; exact r.osH ha) h
/-- .. its list is another one -/
theorem mut_list {i : Nat} {a : Addr} {w : Ow} {d : D} {vs' : List V} {ds' : List D} (r : Rel T Z ρ σ H) (hg : gt ρ i = .da w d) (hw : w ≠ .s) (hv : gv σ i = some (.ref a)) (hn : RpL T Z H vs' ds') :
    Go T N0 Z H ρ σ Z (upd H a (.lst vs')) (ρ.set i (.da w (.lst ds'))) N0 :=
  mut_ok r hg hw hv fun _ _ => .lst upd_same (rpL_mut r ⟨i, ⟨w, d, hg, hw⟩, hv⟩ hn)
theorem RpL.dropLast {vs : List V} {ds : List D} (h : RpL T Z H vs ds) : RpL T Z H vs.dropLast ds.dropLast := by
  rw [List.dropLast_eq_take, List.dropLast_eq_take, h.length]
  exact h.take _
theorem RpL.erase : ∀ {vs : List V} {ds : List D} (i : Nat), RpL T Z H vs ds → RpL T Z H (vs.eraseIdx i) (ds.eraseIdx i)
  | _, _, i, .nil => by simp; exact .nil
  | _, _, 0, .cons _ t => t
  | _, _, i + 1, .cons h t => .cons h (RpL.erase i t)
theorem RpL.set : ∀ {vs : List V} {ds : List D} {v : V} {d : D} (i : Nat), RpL T Z H vs ds → Rp T Z H v d → RpL T Z H (vs.set i v) (ds.set i d)
  | _, _, _, _, _, .nil, _ => .nil
  | _, _, _, _, 0, .cons _ t, q => .cons q t
  | _, _, _, _, i + 1, .cons h t, q => .cons h (RpL.set i t q)
/-- l.pop() -/
theorem sp_pop {i : Nat} (h : Sp T W (fun ρ => popS i ρ) σ H Q) : tBM0 T.K "list" rPop (tVar i) σ H Q := by
  obtain ⟨Z, ρ, r, h⟩ := h
  have h : Pst T W (VlR T) Ov N0 Z H ρ σ (popS i ρ) Q := h
  have key : ∀ (w : Ow) (xs : List D), gt ρ i = .da w (.lst xs) → w ≠ .s → popS i ρ = (match xs.getLast? with
      | some y => .ok (.da false y) (ρ.set i (.da w (.lst xs.dropLast)))
      | none => .no) → tBM0 T.K "list" rPop (tVar i) σ H Q := fun w xs hg hw e => by
    rw [e] at h
    obtain ⟨a, vs, e1, h1, h2⟩ := own_list r hg hw
    refine ⟨.ref a, gv_some e1, .inl ⟨rfl, vs, .of h1⟩, ?_⟩
    cases q : xs.getLast? with
    | none => rw [q] at h; exact h.elim
    | some y =>
      rw [q] at h
      rw [List.getLast?_eq_getElem?] at q
      obtain ⟨v, h3, h4⟩ := h2.get q
      have g := mut_list r hg hw e1 h2.dropLast
      refine ⟨a, vs, v, rfl, rfl, h1, by rw [h2.length]; exact h3, h v _ Z (g.weak fun a z => ?_) (rp_mut r ⟨i, ⟨w, _, hg, hw⟩, e1⟩ h4)⟩
      obtain ⟨⟨_, e⟩, _⟩ := z
      cases e
  have e0 : popS i ρ = match gt ρ i with
    | .da .o (.lst xs) => (match xs.getLast? with
      | some y => .ok (.da false y) (ρ.set i (.da .o (.lst xs.dropLast)))
      | none => .no)
    | .da .l (.lst xs) => (match xs.getLast? with
      | some y => .ok (.da false y) (ρ.set i (.da .l (.lst xs.dropLast)))
      | none => .no)
    | _ => .no := rfl
  cases hg : gt ρ i with
  | un => rw [e0, hg] at h; exact h.elim
  | xc x => rw [e0, hg] at h; exact h.elim
  | da w d =>
    cases d with
    | lst xs =>
      cases w with
      | s => rw [e0, hg] at h; exact h.elim
      | o => exact key .o xs hg (by decide) (by rw [e0, hg])
      | l => exact key .l xs hg (by decide) (by rw [e0, hg])
    | _ => rw [e0, hg] at h; cases w <;> exact h.elim
theorem ixN_le {n j : Nat} {k : Int} (h : ixN n k = some j) : seqIndex? k n = some j ∧ j < n ∧ -(n : Int) ≤ k ∧ k < n := ixN_seq h
theorem isL_own {i : Nat} (h : isL i ρ = true) : ∃ w xs, gt ρ i = .da w (.lst xs) ∧ w ≠ .s := by
  unfold isL at h
  split at h
  · rename_i xs e
    exact ⟨.o, xs, e, by decide⟩
  · rename_i xs e
    exact ⟨.l, xs, e, by decide⟩
  · cases h
theorem own_ty {i : Nat} (r : Rel T Z ρ σ H) (h : isL i ρ = true) : ∃ a, gv σ i = some (.ref a) ∧ tyV T.K "list" (.ref a) H := by
  obtain ⟨w, xs, hg, hw⟩ := isL_own h
  obtain ⟨a, vs, e1, h1, _⟩ := own_list r hg hw
  exact ⟨a, e1, .inl ⟨rfl, vs, .of h1⟩⟩
/-- l.pop(k) -/
theorem sp_popAt {i : Nat} {fa : List En → Rs Vl} (h : Sp T W (fun ρ => if isL i ρ then (fa ρ).bd fun x ρ1 => (toI (rd x ρ1) ρ1).bd fun k ρ2 => if small63 k then popI i k ρ2 else .no else .no) σ H Q) : tBM T.K "list" rPopAt (tVar i) (tCons (Sp T W fa) tNil) σ H Q := by
  obtain ⟨Z, ρ, r, h⟩ := h
  obtain ⟨c, h⟩ := Pst.ifz h
  obtain ⟨a, e1, hty⟩ := own_ty r c
  refine ⟨.ref a, gv_some e1, hty, Z, ρ, r, Pst.bind h fun v H1 x ρ1 Z1 _ g hv h1 => ?_⟩
  obtain ⟨k, e, h1⟩ := Pst.toI h1
  obtain ⟨c63, h1⟩ := Pst.ifz h1
  simp only [small63, decide_eq_true_eq] at c63
  have c63 : -(2 ^ 63) ≤ k ∧ k < 2 ^ 63 := ⟨by omega, by omega⟩
  have q := hv.vw g.rel
  rw [e] at q
  obtain rfl := q.int
  have key : ∀ (w : Ow) (xs : List D), gt ρ1 i = .da w (.lst xs) → w ≠ .s → popI i k ρ1 = (match ixN xs.length k with
      | some j => match xs[j]? with
        | some y => .ok (.da false y) (ρ1.set i (.da w (.lst (xs.eraseIdx j))))
        | none => .no
      | none => .no) → rPopAt (.ref a) [.int k] H1 Q := fun w xs hg hw e => by
    rw [e] at h1
    obtain ⟨a', vs, e1', h1', h2⟩ := own_list g.rel hg hw
    rw [e1] at e1'
    cases e1'
    cases q : ixN xs.length k with
    | none => rw [q] at h1; exact h1.elim
    | some j =>
      rw [q] at h1
      have h1 : Pst T W (VlR T) Ov _ Z1 H1 ρ1 σ (match xs[j]? with
        | some y => .ok (.da false y) (ρ1.set i (.da w (.lst (xs.eraseIdx j))))
        | none => .no) Q := h1
      cases q2 : xs[j]? with
      | none => rw [q2] at h1; exact h1.elim
      | some y =>
        rw [q2] at h1
        obtain ⟨u, h3, h4⟩ := h2.get q2
        obtain ⟨s1, s2, s3, s4⟩ := ixN_le q
        have gg := mut_list g.rel hg hw e1 (h2.erase j)
        refine ⟨a, vs, k, j, u, rfl, rfl, h1', c63.1, c63.2, by rw [h2.length]; exact s1, h3, h1 u _ Z1 ((gg.pre fun _ z => z.elim).weak fun b z => ?_) (rp_mut g.rel ⟨i, ⟨w, _, hg, hw⟩, e1⟩ h4)⟩
        obtain ⟨⟨_, e⟩, _⟩ := z
        cases e
  have e0 : popI i k ρ1 = match gt ρ1 i with
    | .da .o (.lst xs) => (match ixN xs.length k with
      | some j => match xs[j]? with
        | some y => .ok (.da false y) (ρ1.set i (.da .o (.lst (xs.eraseIdx j))))
        | none => .no
      | none => .no)
    | .da .l (.lst xs) => (match ixN xs.length k with
      | some j => match xs[j]? with
        | some y => .ok (.da false y) (ρ1.set i (.da .l (.lst (xs.eraseIdx j))))
        | none => .no
      | none => .no)
    | _ => .no := rfl
  cases hg : gt ρ1 i with
  | un => rw [e0, hg] at h1; exact h1.elim
  | xc x => rw [e0, hg] at h1; exact h1.elim
  | da w d =>
    cases d with
    | lst xs =>
      cases w with
      | s => rw [e0, hg] at h1; exact h1.elim
      | o => exact (key .o xs hg (by decide) (by rw [e0, hg]))
      | l => exact (key .l xs hg (by decide) (by rw [e0, hg]))
    | _ => rw [e0, hg] at h1; cases w <;> exact h1.elim
end
end G
set_option maxHeartbeats 4000000
/-! F14: calls of defs. -/
namespace G
open PySem L2 PySem.Spec PyProof.Rows
/-- a parameter's slot behind the call: what was lent stands as it is now, what was given is gone -/
def mk1 : En → En → En
  | .da .l _, e => e
  | .da .o _, _ => .un
  | a, _ => a
def msk (as fin : List En) : List En := List.zipWith mk1 as fin
/-- a def's step: arguments' slots as, at the values σ -/
structure GoF (T : Tb) (Z : Addr → Prop) (H : Hp) (as : List En) (σ : L2.St) (Z' : Addr → Prop) (H' : Hp) (as' : List En) (E : Addr → Prop) : Prop where
  nx : Nx Z H (Os as σ) Z' H' (fun a => Os as' σ a ∨ E a)
  rel : Rel T Z' as' σ H'
/-- what a def's answer asks -/
def PstF (T : Tb) (E : XK) (Z : Addr → Prop) (H : Hp) (as : List En) (σ : L2.St) (res : FR) (Q : VK) : Prop :=
  match res with
  | .ok o d fin => ∀ v H' Z', GoF T Z H as σ Z' H' (msk as fin) (Ov v (.da o d)) → VlR T Z' H' σ (msk as fin) v (.da o d) → Q v H'
  | .ex x fin => ∀ c d H' Z', GoF T Z H as σ Z' H' (msk as fin) N0 → XcR T c d x → E c d H'
  | .no => False
/-- arguments: data each -/
def Ar : En → Prop
  | .da _ _ => True
  | _ => False
/-- a def's promise, told by what it answers -/
def spF (T : Tb) (φ : List En → FR) : L2.Sp := fun vs H Q E => ∃ Z as, (∀ e ∈ as, Ar e) ∧ Rel T Z as (vs.map some) H ∧ PstF T E Z H as (vs.map some) (φ as) Q
section
variable {T : Tb} {W : WX} {Z Z' : Addr → Prop} {H H' : Hp} {ρ ρ' : List En} {σ σ' : L2.St} {P : Addr → Prop} {x y : V} {d e : D} {Q : VK}
theorem gv_map {vs : List V} {i : Nat} : gv (vs.map some) i = vs[i]? := by
  unfold gv
  rw [List.getElem?_map]
  cases vs[i]? <;> rfl
/-- what is lent -/
theorem lend_cons {v : Vl} {vs : List Vl} {as : List En} (h : lend ρ (v :: vs) = some as) : ∃ e es, as = e :: es ∧ lend ρ vs = some es ∧ ((∃ o d, v = .da o d ∧ e = .da (ow o) d) ∨ ∃ i w d, v = .vw i ∧ gt ρ i = .da w d ∧ e = .da (if w = .s then .s else .l) d) := by
  cases v with
  | da o d =>
    have h : (lend ρ vs).map (.da (ow o) d :: ·) = some as := h
    cases q : lend ρ vs with
    | none => rw [q] at h; cases h
    | some es => rw [q] at h; cases h; exact ⟨_, _, rfl, rfl, .inl ⟨o, d, rfl, rfl⟩⟩
  | vw i =>
    have h : (match gt ρ i with
      | .da .s d => (lend ρ vs).map (.da .s d :: ·)
      | .da _ d => (lend ρ vs).map (.da .l d :: ·)
      | _ => none) = some as := h
    cases hg : gt ρ i with
    | un => rw [hg] at h; cases h
    | xc x => rw [hg] at h; cases h
    | da w d =>
      rw [hg] at h
      cases q : lend ρ vs with
      | none => rw [q] at h; cases w <;> cases h
      | some es =>
        rw [q] at h
        cases w with
        | s => cases h; exact ⟨_, _, rfl, rfl, .inr ⟨i, .s, d, rfl, hg, rfl⟩⟩
        | o => cases h; exact ⟨_, _, rfl, rfl, .inr ⟨i, .o, d, rfl, hg, rfl⟩⟩
        | l => cases h; exact ⟨_, _, rfl, rfl, .inr ⟨i, .l, d, rfl, hg, rfl⟩⟩
/-- the slots lent at place k -/
theorem lend_at : ∀ {xs : List Vl} {as : List En} {vs : List V}, lend ρ xs = some as → VlsR T Z H σ ρ vs xs → vs.length = as.length ∧ (∀ e ∈ as, Ar e) ∧
    ∀ (k : Nat) (e : En), as[k]? = some e → ∃ v xv, vs[k]? = some v ∧ xs[k]? = some xv ∧ VlR T Z H σ ρ v xv ∧ ((∃ o d, xv = .da o d ∧ e = .da (ow o) d) ∨ ∃ i w d, xv = .vw i ∧ gt ρ i = .da w d ∧ e = .da (if w = .s then .s else .l) d)
  | [], as, vs, h, hv => by
    cases h
    cases hv
    exact ⟨rfl, (fun e he => nomatch he), fun k e he => by simp at he⟩
  | xv :: xs, as, vs, h, hv => by
    obtain ⟨e, es, rfl, h1, h2⟩ := lend_cons h
    cases hv with
    | cons hv t s =>
      obtain ⟨l1, a1, f1⟩ := lend_at h1 t
      refine ⟨by rw [List.length_cons, List.length_cons, l1], fun e' he => ?_, fun k e' he => ?_⟩
      · rcases List.mem_cons.mp he with q | q
        · rw [q]
          rcases h2 with ⟨o, d, _, h2⟩ | ⟨i, w, d, _, _, h2⟩ <;> (rw [h2]; trivial)
        · exact a1 e' q
      · cases k with
        | zero =>
          have he : some e = some e' := he
          cases he
          exact ⟨_, _, rfl, rfl, hv, h2⟩
        | succ k => exact f1 k e' (by simpa using he)
theorem vws_mem : ∀ {xs : List Vl} {k i : Nat}, xs[k]? = some (.vw i) → i ∈ vws xs
  | [], k, i, h => by simp at h
  | .da o d :: xs, 0, i, h => by simp at h
  | .da o d :: xs, k + 1, i, h => vws_mem (xs := xs) (k := k) (by simpa using h)
  | .vw j :: xs, 0, i, h => by
    have h : some (Vl.vw j) = some (.vw i) := h
    cases h
    exact List.mem_cons_self
  | .vw j :: xs, k + 1, i, h => List.mem_cons_of_mem _ (vws_mem (xs := xs) (k := k) (by simpa using h))
theorem vws_inj : ∀ {xs : List Vl} {k k' i : Nat}, (vws xs).Nodup → xs[k]? = some (.vw i) → xs[k']? = some (.vw i) → k = k'
  | [], k, k', i, _, h, _ => by simp at h
  | .da o d :: xs, 0, _, i, _, h, _ => by simp at h
  | .da o d :: xs, _ + 1, 0, i, _, _, h => by simp at h
  | .da o d :: xs, k + 1, k' + 1, i, n, h, h' => congrArg (· + 1) (vws_inj (xs := xs) n (by simpa using h) (by simpa using h'))
  | .vw j :: xs, 0, 0, i, _, _, _ => rfl
  | .vw j :: xs, 0, k' + 1, i, n, h, h' => by
    have h : some (Vl.vw j) = some (.vw i) := h
    cases h
    exact absurd (vws_mem (xs := xs) (k := k') (by simpa using h')) (List.nodup_cons.mp n).1
  | .vw j :: xs, k + 1, 0, i, n, h, h' => by
    have h' : some (Vl.vw j) = some (.vw i) := h'
    cases h'
    exact absurd (vws_mem (xs := xs) (k := k) (by simpa using h)) (List.nodup_cons.mp n).1
  | .vw j :: xs, k + 1, k' + 1, i, n, h, h' => congrArg (· + 1) (vws_inj (xs := xs) (List.nodup_cons.mp n).2 (by simpa using h) (by simpa using h'))
theorem VlsR.apart : ∀ {vs : List V} {xs : List Vl} {k k' : Nat} {v v' : V} {xv xv' : Vl} {a : Addr}, VlsR T Z H σ ρ vs xs → vs[k]? = some v → xs[k]? = some xv → vs[k']? = some v' → xs[k']? = some xv' → Ov v xv a → Ov v' xv' a → k = k'
  | _, _, k, k', v, v', xv, xv', a, .nil, h, _, _, _, _, _ => by simp at h
  | _, _, 0, 0, _, _, _, _, _, .cons _ _ _, _, _, _, _, _, _ => rfl
  | _, _, 0, k' + 1, v, v', xv, xv', a, .cons (vs := vs) (xs := xs) _ _ s, h1, h2, h3, h4, o1, o2 => by
    simp at h1 h2 h3 h4
    subst h1 h2
    refine absurd o2 (s a o1 v' xv' ?_)
    exact List.mem_of_getElem? (i := k') (by rw [List.getElem?_zip_eq_some]; exact ⟨h3, h4⟩)
  | _, _, k + 1, 0, v, v', xv, xv', a, .cons (vs := vs) (xs := xs) _ _ s, h1, h2, h3, h4, o1, o2 => by
    simp at h1 h2 h3 h4
    subst h3 h4
    refine absurd o1 (s a o2 v xv ?_)
    exact List.mem_of_getElem? (i := k) (by rw [List.getElem?_zip_eq_some]; exact ⟨h1, h2⟩)
  | _, _, k + 1, k' + 1, v, v', xv, xv', a, .cons _ t _, h1, h2, h3, h4, o1, o2 => congrArg (· + 1) (VlsR.apart (k := k) (k' := k') t (by simpa using h1) (by simpa using h2) (by simpa using h3) (by simpa using h4) o1 o2)
theorem gt_some {i : Nat} {e : En} (h : ρ[i]? = some e) : gt ρ i = e := by
  unfold gt
  rw [h]
  rfl
theorem gt_da {i : Nat} {w : Ow} {d : D} (h : gt ρ i = .da w d) : ρ[i]? = some (.da w d) := by
  have hl := gt_lt h
  unfold gt at h
  rw [List.getElem?_eq_getElem hl] at h ⊢
  exact congrArg some h
theorem lend_own {xs : List Vl} {as : List En} {vs : List V} (h : lend ρ xs = some as) (hv : VlsR T Z H σ ρ vs xs) (k : Nat) (a : Addr) (ho : Own as (vs.map some) k a) :
    ∃ xv, xs[k]? = some xv ∧ vs[k]? = some (.ref a) ∧ VlR T Z H σ ρ (.ref a) xv ∧ (Ov (.ref a) xv a ∨ ∃ i, xv = .vw i ∧ Own ρ σ i a) := by
  obtain ⟨l1, a1, f1⟩ := lend_at h hv
  obtain ⟨⟨w, d, hg, hw⟩, hv'⟩ := ho
  rw [gv_map] at hv'
  obtain ⟨v, xv, h2, h3, h4, h5⟩ := f1 k _ (gt_da hg)
  rw [hv'] at h2
  cases h2
  refine ⟨xv, h3, hv', h4, ?_⟩
  rcases h5 with ⟨o, d', rfl, h5⟩ | ⟨i, w', d', rfl, h6, h5⟩
  · cases o with
    | true => exact .inl ⟨⟨d', rfl⟩, rfl⟩
    | false =>
      have h5 : En.da w d = .da .s d' := h5
      cases h5
      exact absurd rfl hw
  · refine .inr ⟨i, rfl, ⟨w', d', h6, fun z => ?_⟩, h4.1⟩
    rw [if_pos z] at h5
    cases h5
    exact hw rfl
/-- the callee's state -/
theorem lend_rel {xs : List Vl} {as : List En} {vs : List V} (r : Rel T Z ρ σ H) (hn : (vws xs).Nodup) (h : lend ρ xs = some as) (hv : VlsR T Z H σ ρ vs xs) :
    Rel T Z as (vs.map some) H ∧ ∀ a, Os as (vs.map some) a → Os ρ σ a ∨ Ovs vs xs a := by
  obtain ⟨l1, a1, f1⟩ := lend_at h hv
  have own := lend_own h hv
  have os : ∀ a, Os as (vs.map some) a → Os ρ σ a ∨ Ovs vs xs a := fun a ⟨k, hk⟩ => by
    obtain ⟨xv, h1, h2, _, h3⟩ := own k a hk
    rcases h3 with h3 | ⟨i, _, h3⟩
    · exact .inr ⟨.ref a, xv, List.mem_of_getElem? (i := k) (by rw [List.getElem?_zip_eq_some]; exact ⟨h2, h1⟩), h3⟩
    · exact .inl ⟨i, h3⟩
  refine ⟨⟨by rw [List.length_map, l1], fun k => ?_, fun k k' a h1 h2 => ?_, fun a ha => ?_, r.zd⟩, os⟩
  · rw [gv_map]
    cases e : as[k]? with
    | none =>
      have : gt as k = .un := by unfold gt; rw [e]; rfl
      rw [this]
      trivial
    | some en =>
      rw [gt_some e]
      obtain ⟨v, xv, h2, h3, h4, h5⟩ := f1 k _ e
      rw [h2]
      rcases h5 with ⟨o, d', rfl, rfl⟩ | ⟨i, w', d', rfl, h6, rfl⟩
      · cases o with
        | true =>
          obtain ⟨a, rfl, hw, _⟩ := h4
          exact ⟨a, rfl, hw⟩
        | false => exact ⟨v, rfl, h4⟩
      · have q := r.sl i
        rw [h6, h4.1] at q
        cases w' with
        | s =>
          obtain ⟨v', e', q⟩ := q
          cases e'
          exact ⟨v, rfl, q⟩
        | o => exact q
        | l => exact q
  · obtain ⟨xv, g1, g2, g4, g3⟩ := own k a h1
    obtain ⟨xv', g1', g2', g4', g3'⟩ := own k' a h2
    rcases g3 with g3 | ⟨i, rfl, g3⟩
    · rcases g3' with g3' | ⟨i', rfl, g3'⟩
      · exact hv.apart g2 g1 g2' g1' g3 g3'
      · exact absurd ⟨i', g3'⟩ (g4.nos a g3)
    · rcases g3' with g3' | ⟨i', rfl, g3'⟩
      · exact absurd ⟨i, g3⟩ (g4'.nos a g3')
      · have e := r.sep i i' a g3 g3'
        subst e
        exact vws_inj hn g1 g1'
  · rcases os a ha with z | z
    · exact r.zs a z
    · exact (hv.okV a z).1
/-- behind the call -/
theorem give_at : ∀ {xs : List Vl} {fin : List En} {ρ ρ' : List En}, (vws xs).Nodup → give xs fin ρ = some ρ' → ρ'.length = ρ.length ∧ xs.length ≤ fin.length ∧
    (∀ j, (j ∉ vws xs ∨ ∃ d, gt ρ j = .da .s d) → gt ρ' j = gt ρ j) ∧
    ∀ (k i : Nat) (w : Ow) (d : D), xs[k]? = some (.vw i) → gt ρ i = .da w d → w ≠ .s → ∃ d', gt fin k = .da .l d' ∧ gt ρ' i = .da w d'
  | [], fin, ρ, ρ', _, h => by
    cases h
    exact ⟨rfl, Nat.zero_le _, fun j _ => rfl, fun k i w d hk => by simp at hk⟩
  | .da o d :: xs, [], ρ, ρ', _, h => nomatch h
  | .vw i :: xs, [], ρ, ρ', _, h => nomatch h
  | .da o d :: xs, f :: fin, ρ, ρ', n, h => by
    obtain ⟨h1, h2, h3, h4⟩ := give_at (xs := xs) (fin := fin) n h
    refine ⟨h1, Nat.succ_le_succ h2, h3, fun k i w d hk hg hw => ?_⟩
    cases k with
    | zero => simp at hk
    | succ k => exact h4 k i w d (by simpa using hk) hg hw
  | .vw i :: xs, f :: fin, ρ, ρ', n, h => by
    obtain ⟨n1, n2⟩ := List.nodup_cons.mp (show (i :: vws xs).Nodup from n)
    have h : (match (generalizing := false) gt ρ i, f with
      | .da .s _, _ => give xs fin ρ
      | .da w _, .da .l d => give xs fin (ρ.set i (.da w d))
      | _, _ => none) = some ρ' := h
    cases hg : gt ρ i with
    | un => rw [hg] at h; cases h
    | xc x => rw [hg] at h; cases h
    | da w d =>
      rw [hg] at h
      have shared : w = .s → give xs fin ρ = some ρ' := fun e => by subst e; exact h
      by_cases hw : w = .s
      · obtain ⟨h1, h2, h3, h4⟩ := give_at (xs := xs) (fin := fin) n2 (shared hw)
        subst hw
        refine ⟨h1, Nat.succ_le_succ h2, fun j hj => ?_, fun k i' w' d' hk hg' hw' => ?_⟩
        · by_cases e : j = i
          · subst e
            exact h3 j (.inr ⟨d, hg⟩)
          · rcases hj with hj | hj
            · exact h3 j (.inl fun z => hj (List.mem_cons_of_mem _ z))
            · exact h3 j (.inr hj)
        · cases k with
          | zero =>
            have hk : some (Vl.vw i) = some (.vw i') := hk
            cases hk
            rw [hg] at hg'
            cases hg'
            exact absurd rfl hw'
          | succ k => exact h4 k i' w' d' (by simpa using hk) hg' hw'
      · have owned : ∃ df, f = .da .l df ∧ give xs fin (ρ.set i (.da w df)) = some ρ' := by
          cases f with
          | un => cases w <;> first | exact absurd rfl hw | cases h
          | xc x => cases w <;> first | exact absurd rfl hw | cases h
          | da w2 df => cases w <;> first | exact absurd rfl hw | (cases w2 <;> first | exact ⟨df, rfl, h⟩ | cases h)
        obtain ⟨df, rfl, hgv⟩ := owned
        have hl := gt_lt hg
        obtain ⟨h1, h2, h3, h4⟩ := give_at (xs := xs) (fin := fin) n2 hgv
        have e1 : gt ρ' i = .da w df := by
          rw [h3 i (.inl n1), gt_set, if_pos ⟨rfl, hl⟩]
        have ne : ∀ j, j ≠ i → gt (ρ.set i (.da w df)) j = gt ρ j := fun j hj => by rw [gt_set, if_neg fun z => hj z.1.symm]
        refine ⟨by rw [h1, List.length_set], Nat.succ_le_succ h2, fun j hj => ?_, fun k i' w' d' hk hg' hw' => ?_⟩
        · have hji : j ≠ i := by
            rintro rfl
            rcases hj with hj | ⟨d2, hj⟩
            · exact hj List.mem_cons_self
            · rw [hg] at hj; cases hj; exact hw rfl
          rw [← ne j hji]
          refine h3 j ?_
          rcases hj with hj | hj
          · exact .inl fun z => hj (List.mem_cons_of_mem _ z)
          · exact .inr (by rw [ne j hji]; exact hj)
        · cases k with
          | zero =>
            have hk : some (Vl.vw i) = some (.vw i') := hk
            cases hk
            rw [hg] at hg'
            cases hg'
            exact ⟨df, rfl, e1⟩
          | succ k =>
            have hi' : i' ≠ i := by
              rintro rfl
              exact n1 (vws_mem (xs := xs) (k := k) (by simpa using hk))
            exact h4 k i' w' d' (by simpa using hk) (by rw [ne i' hi']; exact hg') hw'
theorem mem_vws : ∀ {xs : List Vl} {i : Nat}, i ∈ vws xs → ∃ k : Nat, xs[k]? = some (Vl.vw i)
  | [], i, h => nomatch h
  | .da o d :: xs, i, h => by
    obtain ⟨k, e⟩ := mem_vws (xs := xs) h
    exact ⟨k + 1, by simpa using e⟩
  | .vw j :: xs, i, h => by
    rcases List.mem_cons.mp (show i ∈ j :: vws xs from h) with e | h
    · subst e
      exact ⟨0, rfl⟩
    · obtain ⟨k, e⟩ := mem_vws (xs := xs) h
      exact ⟨k + 1, by simpa using e⟩
theorem gt_msk {as fin : List En} {k : Nat} {d d' : D} (h1 : as[k]? = some (.da .l d)) (h2 : gt fin k = .da .l d') : gt (msk as fin) k = .da .l d' := by
  unfold gt msk
  rw [List.getElem?_zipWith, h1, gt_da h2]
  rfl
/-- the caller's state behind the call -/
theorem back_rel {xs : List Vl} {as fin : List En} {vs : List V} {E : Addr → Prop} (r : Rel T Z ρ σ H) (hn : (vws xs).Nodup) (h : lend ρ xs = some as) (hv : VlsR T Z H σ ρ vs xs) (hg : give xs fin ρ = some ρ')
    (g : GoF T Z H as (vs.map some) Z' H' (msk as fin) E) : Go T (Ovs vs xs) Z H ρ σ Z' H' ρ' E ∧ ∀ a, E a → ¬ Os (msk as fin) (vs.map some) a → ¬ Os ρ' σ a := by
  obtain ⟨l1, a1, f1⟩ := lend_at h hv
  obtain ⟨r1, o1⟩ := lend_rel r hn h hv
  obtain ⟨k1, k2, k3, k4⟩ := give_at hn hg
  have cas : ∀ i, (gt ρ' i = gt ρ i ∧ (i ∉ vws xs ∨ ∃ d, gt ρ i = .da .s d)) ∨ ∃ k w d d', gt ρ i = .da w d ∧ w ≠ .s ∧ gt ρ' i = .da w d' ∧ gt (msk as fin) k = .da .l d' ∧ gv (vs.map some) k = gv σ i := fun i => by
    by_cases hi : i ∈ vws xs
    · obtain ⟨k, hk⟩ := mem_vws hi
      have hl : k < as.length := by
        rw [← l1, hv.length]
        exact (List.getElem?_eq_some_iff.mp hk).1
      obtain ⟨v, xv, h2, h3, h4, h5⟩ := f1 k _ (List.getElem?_eq_getElem hl)
      rw [hk] at h3
      cases h3
      rcases h5 with ⟨o, d, e, _⟩ | ⟨i', w, d, e, h6, h7⟩
      · cases e
      · cases e
        by_cases hw : w = .s
        · subst hw
          exact .inl ⟨k3 i (.inr ⟨d, h6⟩), .inr ⟨d, h6⟩⟩
        · obtain ⟨d', g1, g2⟩ := k4 k i w d hk h6 hw
          rw [if_neg hw] at h7
          refine .inr ⟨k, w, d, d', h6, hw, g2, gt_msk (by rw [List.getElem?_eq_getElem hl, h7]) g1, ?_⟩
          rw [gv_map, h2, h4.1]
    · exact .inl ⟨k3 i (.inl hi), .inl hi⟩
  have same : ∀ i a, Own ρ' σ i a → Own ρ σ i a := fun i a ⟨⟨w, d, e, hw⟩, hv'⟩ => by
    rcases cas i with ⟨e1, _⟩ | ⟨k, w', d1, d2, e1, hw1, e2, _, _⟩
    · rw [e1] at e
      exact ⟨⟨w, d, e, hw⟩, hv'⟩
    · exact ⟨⟨w', d1, e1, hw1⟩, hv'⟩
  -- an owner that is not lent
  have out : ∀ i a, Own ρ σ i a → i ∉ vws xs → ¬ Os as (vs.map some) a := fun i a ho hi ⟨k, hk⟩ => by
    obtain ⟨xv, g1, g2, g4, g3⟩ := lend_own h hv k a hk
    rcases g3 with g3 | ⟨i', rfl, g3⟩
    · exact g4.nos a g3 ⟨i, ho⟩
    · have e := r.sep i i' a ho g3
      subst e
      exact hi (vws_mem g1)
  have own' : ∀ i a, Own ρ' σ i a → (Own ρ σ i a ∧ i ∉ vws xs) ∨ Os (msk as fin) (vs.map some) a := fun i a ho => by
    rcases cas i with ⟨e1, e2⟩ | ⟨k, w', d1, d2, e1, hw1, e2, e3, e4⟩
    · refine .inl ⟨same i a ho, ?_⟩
      rcases e2 with e2 | ⟨d, e2⟩
      · exact e2
      · obtain ⟨⟨w, d', e, hw⟩, _⟩ := ho
        rw [e1, e2] at e
        cases e
        exact absurd rfl hw
    · exact .inr ⟨k, ⟨.l, d2, e3, by decide⟩, by rw [e4]; exact ho.2⟩
  have nz : ∀ i a, Own ρ σ i a → i ∉ vws xs → ¬ Z' a := fun i a ho hi hz => by
    rcases g.nx.zn a hz with z | z | z
    · exact r.zs a ⟨i, ho⟩ z
    · exact out i a ho hi z
    · obtain ⟨u, e, _⟩ := r.osH ⟨i, ho⟩
      rw [e] at z
      cases z
  refine ⟨⟨⟨fun a o e n => g.nx.keep a o e fun z => n (o1 a z), g.nx.dom, g.nx.zm, fun a z => (g.nx.zn a z).imp id (Or.imp (o1 a) id), fun a z => ?_⟩, ⟨by rw [k1]; exact r.len, fun i => ?_, fun i j a h1 h2 => r.sep i j a (same i a h1) (same j a h2), fun a ⟨i, ho⟩ => ?_, g.rel.zd⟩, fun i w d e => ?_⟩, fun a hE hno ⟨i, ho⟩ => ?_⟩
  · rcases z with ⟨i, z⟩ | z
    · exact .inl (.inl ⟨i, same i a z⟩)
    · exact (g.nx.on a (.inr z)).imp (o1 a) id
  · rcases cas i with ⟨e1, e2⟩ | ⟨k, w', d1, d2, e1, hw1, e2, e3, e4⟩
    · rw [e1]
      refine (r.sl i).stay g.nx.stays r1.zs (fun _ q => r1.osH q) fun w d a h1 h2 h3 => ?_
      have hi : i ∉ vws xs := by
        rcases e2 with e2 | ⟨d', e2⟩
        · exact e2
        · rw [e2] at h1
          cases h1
          exact absurd rfl h2
      exact out i a ⟨⟨w, d, h1, h2⟩, h3⟩ hi
    · have q := g.rel.sl k
      rw [e3, e4] at q
      rw [e2]
      cases w' with
      | s => exact absurd rfl hw1
      | o => exact q
      | l => exact q
  · rcases own' i a ho with ⟨h1, h2⟩ | h1
    · exact nz i a h1 h2
    · exact g.rel.zs a h1
  · rcases cas i with ⟨e1, _⟩ | ⟨k, w', d1, d2, e1, hw1, e2, _, _⟩
    · exact ⟨w, d, by rw [e1]; exact e, id, id⟩
    · rw [e1] at e
      cases e
      exact ⟨_, d2, e2, id, id⟩
  · rcases own' i a ho with ⟨h1, h2⟩ | h1
    · rcases g.nx.on a (.inr hE) with z | z
      · exact out i a h1 h2 z
      · obtain ⟨u, e, _⟩ := r.osH ⟨i, h1⟩
        rw [e] at z
        cases z
    · exact hno h1
/-- a def's call, by its promise -/
theorem sp_call {φ : List En → FR} {fs : List En → Rs (List Vl)} (h : Sp T W (fun ρ => (fs ρ).bd fun vs ρ1 => doCall φ vs ρ1) σ H Q) : tCallS (spF T φ) (WE W) (SpA T W fs) σ H Q := by
  obtain ⟨Z, ρ, r, h⟩ := h
  refine ⟨Z, ρ, r, Pst.bind h fun vs H1 xs ρ1 Z1 _ g hv h1 => ?_⟩
  · by_cases hn : (vws xs).Nodup
    · have e : doCall φ xs ρ1 = match lend ρ1 xs with
        | none => .no
        | some as => match φ as with
          | .ok o d fin => (match give xs fin ρ1 with
            | some ρ' => .ok (.da o d) ρ'
            | none => .no)
          | .ex x fin => (match give xs fin ρ1 with
            | some ρ' => .ex x ρ'
            | none => .no)
          | .no => .no := by unfold doCall; rw [if_pos hn] <;> rfl
      rw [e] at h1
      cases e1 : lend ρ1 xs with
      | none => rw [e1] at h1; exact h1.elim
      | some as =>
        rw [e1] at h1
        obtain ⟨r1, o1⟩ := lend_rel g.rel hn e1 hv
        obtain ⟨l1, a1, _⟩ := lend_at e1 hv
        refine ⟨Z1, as, a1, r1, ?_⟩
        revert h1
        show Pst T W (VlR T) Ov _ Z1 H1 ρ1 σ (match φ as with
          | .ok o d fin => (match give xs fin ρ1 with
            | some ρ' => .ok (.da o d) ρ'
            | none => .no)
          | .ex x fin => (match give xs fin ρ1 with
            | some ρ' => .ex x ρ'
            | none => .no)
          | .no => .no) Q → PstF T (WE W σ) Z1 H1 as (vs.map some) (φ as) Q
        cases φ as with
        | no => exact id
        | ok o d fin =>
          intro h1 v H2 Z2 g2 hv2
          have h1 : Pst T W (VlR T) Ov _ Z1 H1 ρ1 σ (match give xs fin ρ1 with
            | some ρ' => .ok (.da o d) ρ'
            | none => .no) Q := h1
          cases e2 : give xs fin ρ1 with
          | none => rw [e2] at h1; exact h1.elim
          | some ρ' =>
            rw [e2] at h1
            obtain ⟨g3, n3⟩ := back_rel g.rel hn e1 hv e2 g2
            refine h1 v H2 Z2 (g3.pre fun a z => .inl z) ?_
            cases o with
            | false => exact hv2
            | true =>
              obtain ⟨a, rfl, hw, nz, no⟩ := hv2
              exact ⟨a, rfl, hw, nz, n3 a ⟨⟨d, rfl⟩, rfl⟩ no⟩
        | ex x fin =>
          intro h1 c d H2 Z2 g2 hx
          have h1 : Pst T W (VlR T) Ov _ Z1 H1 ρ1 σ (match give xs fin ρ1 with
            | some ρ' => .ex x ρ'
            | none => .no) Q := h1
          cases e2 : give xs fin ρ1 with
          | none => rw [e2] at h1; exact h1.elim
          | some ρ' =>
            rw [e2] at h1
            obtain ⟨g3, _⟩ := back_rel g.rel hn e1 hv e2 g2
            exact h1 c d H2 Z2 (g3.pre fun a z => .inl z) hx
    · have e : doCall φ xs ρ1 = .no := by unfold doCall; rw [if_neg hn]
      rw [e] at h1
      exact h1.elim
end
end G
set_option maxHeartbeats 4000000
/-! F15: statements' readings; walks. -/
namespace G
open PySem L2 PySem.Spec PyProof.Rows
/-- a statement's step -/
structure GoS (T : Tb) (P : Addr → Prop) (Z : Addr → Prop) (H : Hp) (ρ : List En) (σ : L2.St) (Z' : Addr → Prop) (H' : Hp) (ρ' : List En) (σ' : L2.St) (E : Addr → Prop) : Prop where
  nx : Nx Z H (fun a => Os ρ σ a ∨ P a) Z' H' (fun a => Os ρ' σ' a ∨ E a)
  rel : Rel T Z' ρ' σ' H'
  lt : ∀ i d, gt ρ i = .da .l d → ∃ d', gt ρ' i = .da .l d' ∧ gv σ' i = gv σ i
section
variable {T : Tb} {W : WX} {Z Z' Z'' : Addr → Prop} {H H' H'' : Hp} {ρ ρ' ρ'' : List En} {σ σ' σ'' : L2.St} {P : Addr → Prop} {x y : V} {d e : D} {Q : VK}
theorem Go.s {E : Addr → Prop} (g : Go T P Z H ρ σ Z' H' ρ' E) : GoS T P Z H ρ σ Z' H' ρ' σ E := ⟨g.nx, g.rel, fun i d h => by
  obtain ⟨w, d', h1, h2, _⟩ := g.df i .l d h
  rw [h2 rfl] at h1
  exact ⟨d', h1, rfl⟩⟩
theorem GoS.refl (r : Rel T Z ρ σ H) : GoS T P Z H ρ σ Z H ρ σ P := ⟨Nx.refl, r, fun i d h => ⟨d, h, rfl⟩⟩
theorem GoS.trans {E F : Addr → Prop} (a : GoS T P Z H ρ σ Z' H' ρ' σ' E) (b : GoS T E Z' H' ρ' σ' Z'' H'' ρ'' σ'' F) : GoS T P Z H ρ σ Z'' H'' ρ'' σ'' F :=
  ⟨a.nx.trans b.nx, b.rel, fun i d h => by
    obtain ⟨d1, h1, e1⟩ := a.lt i d h
    obtain ⟨d2, h2, e2⟩ := b.lt i d1 h1
    exact ⟨d2, h2, e2.trans e1⟩⟩
theorem GoS.weak {E F : Addr → Prop} (a : GoS T P Z H ρ σ Z' H' ρ' σ' E) (h : ∀ x, F x → E x) : GoS T P Z H ρ σ Z' H' ρ' σ' F := ⟨a.nx.weak fun x q => q.imp id (h x), a.rel, a.lt⟩
theorem GoS.pre {P' E : Addr → Prop} (a : GoS T P Z H ρ σ Z' H' ρ' σ' E) (h : ∀ x, P x → P' x) : GoS T P' Z H ρ σ Z' H' ρ' σ' E := ⟨a.nx.pre fun x q => q.imp id (h x), a.rel, a.lt⟩
theorem GoS.frame {E F : Addr → Prop} (a : GoS T P Z H ρ σ Z' H' ρ' σ' E) : GoS T (fun x => P x ∨ F x) Z H ρ σ Z' H' ρ' σ' (fun x => E x ∨ F x) :=
  ⟨((a.nx.frame (P := F)).pre fun x q => q.elim (fun q => q.imp id .inl) fun q => .inr (.inr q)).weak fun x q => q.elim (fun q => .inl (.inl q)) fun q => q.elim (fun q => .inl (.inr q)) .inr, a.rel, a.lt⟩
/-- a store's step: slots beside these stay -/
structure GoT (T : Tb) (is : List Nat) (P : Addr → Prop) (Z : Addr → Prop) (H : Hp) (ρ : List En) (σ : L2.St) (Z' : Addr → Prop) (H' : Hp) (ρ' : List En) (σ' : L2.St) (E : Addr → Prop) : Prop extends GoS T P Z H ρ σ Z' H' ρ' σ' E where
  len : σ'.length = σ.length
  dif : ∀ j, j ∉ is → σ'[j]? = σ[j]?
  df : ∀ j w d, j ∉ is → gt ρ j = .da w d → ∃ w' d', gt ρ' j = .da w' d' ∧ (w = .l → w' = .l) ∧ (w' = .l → w = .l)
theorem Go.t {E : Addr → Prop} {is : List Nat} (g : Go T P Z H ρ σ Z' H' ρ' E) : GoT T is P Z H ρ σ Z' H' ρ' σ E := ⟨g.s, rfl, fun _ _ => rfl, fun j w d _ h => g.df j w d h⟩
theorem GoT.trans {E F : Addr → Prop} {is : List Nat} (a : GoT T is P Z H ρ σ Z' H' ρ' σ' E) (b : GoT T is E Z' H' ρ' σ' Z'' H'' ρ'' σ'' F) : GoT T is P Z H ρ σ Z'' H'' ρ'' σ'' F :=
  ⟨a.toGoS.trans b.toGoS, b.len.trans a.len, fun j h => (b.dif j h).trans (a.dif j h), fun j w d hj h => by
    obtain ⟨w1, d1, h1, l1, l2⟩ := a.df j w d hj h
    obtain ⟨w2, d2, h2, l3, l4⟩ := b.df j w1 d1 hj h1
    exact ⟨w2, d2, h2, fun q => l3 (l1 q), fun q => l2 (l4 q)⟩⟩
theorem GoT.pre {P' E : Addr → Prop} {is : List Nat} (a : GoT T is P Z H ρ σ Z' H' ρ' σ' E) (h : ∀ x, P x → P' x) : GoT T is P' Z H ρ σ Z' H' ρ' σ' E := ⟨a.toGoS.pre h, a.len, a.dif, a.df⟩
theorem GoT.frame {E F : Addr → Prop} {is : List Nat} (a : GoT T is P Z H ρ σ Z' H' ρ' σ' E) : GoT T is (fun x => P x ∨ F x) Z H ρ σ Z' H' ρ' σ' (fun x => E x ∨ F x) := ⟨a.toGoS.frame, a.len, a.dif, a.df⟩
theorem GoT.weak {E F : Addr → Prop} {is : List Nat} (a : GoT T is P Z H ρ σ Z' H' ρ' σ' E) (h : ∀ x, F x → E x) : GoT T is P Z H ρ σ Z' H' ρ' σ' F := ⟨a.toGoS.weak h, a.len, a.dif, a.df⟩
theorem GoT.more {E : Addr → Prop} {is js : List Nat} (a : GoT T is P Z H ρ σ Z' H' ρ' σ' E) (h : ∀ j, j ∈ is → j ∈ js) : GoT T js P Z H ρ σ Z' H' ρ' σ' E := ⟨a.toGoS, a.len, fun j q => a.dif j fun z => q (h j z), fun j w d q => a.df j w d fun z => q (h j z)⟩
/-- what a statement's answer asks -/
def PstS (T : Tb) (W : WX) (P Z : Addr → Prop) (H : Hp) (ρ : List En) (σ : L2.St) (res : Rs Fl) (D : Ends) : Prop :=
  match res with
  | .ok .nx ρ' => ∀ σ' H' Z', GoS T P Z H ρ σ Z' H' ρ' σ' N0 → D.nx σ' H'
  | .ok .bk ρ' => ∀ σ' H' Z', GoS T P Z H ρ σ Z' H' ρ' σ' N0 → D.bk σ' H'
  | .ok .ct ρ' => ∀ σ' H' Z', GoS T P Z H ρ σ Z' H' ρ' σ' N0 → D.ct σ' H'
  | .ok (.rt o d) ρ' => ∀ v σ' H' Z', GoS T P Z H ρ σ Z' H' ρ' σ' (Ov v (.da o d)) → VlR T Z' H' σ' ρ' v (.da o d) → D.rt v H'
  | .ex x ρ' => ∀ c d σ' H' Z', GoS T P Z H ρ σ Z' H' ρ' σ' N0 → XcR T c d x → W c d σ' H'
  | .no => False
/-- a store's -/
def PstU (T : Tb) (W : WX) (is : List Nat) (P Z : Addr → Prop) (H : Hp) (ρ : List En) (σ : L2.St) (res : Rs Unit) (Q : L2.St → Hp → Prop) : Prop :=
  match res with
  | .ok _ ρ' => ∀ σ' H' Z', GoT T is P Z H ρ σ Z' H' ρ' σ' N0 → Q σ' H'
  | .ex x ρ' => ∀ c d σ' H' Z', GoS T P Z H ρ σ Z' H' ρ' σ' N0 → XcR T c d x → W c d σ' H'
  | .no => False
def SpS (T : Tb) (W : WX) (f : List En → Rs Fl) : TS := fun D σ H => ∃ Z ρ, Rel T Z ρ σ H ∧ PstS T W N0 Z H ρ σ (f ρ) D
/-- a target's reading: what is stored is shared from here on -/
def SpG (T : Tb) (W : WX) (is : List Nat) (f : D → List En → Rs Unit) : TG := fun v σ H Q => ∃ Z ρ d, Rel T Z ρ σ H ∧ Rp T Z H v d ∧ PstU T W is N0 Z H ρ σ (f d ρ) Q
def SpGs (T : Tb) (W : WX) (is : List Nat) (f : List D → List En → Rs Unit) : TGs := fun vs σ H Q => ∃ Z ρ ds, Rel T Z ρ σ H ∧ RpL T Z H vs ds ∧ PstU T W is N0 Z H ρ σ (f ds ρ) Q
theorem PstS.step {res : Rs Fl} {D : Ends} {E : Addr → Prop} (h : PstS T W P Z H ρ σ res D) (g : GoS T P Z H ρ σ Z' H' ρ' σ' E) : PstS T W E Z' H' ρ' σ' res D := by
  cases res with
  | no => exact h
  | ex x ρ1 => exact fun c d σ1 H1 Z1 g1 hx => h c d σ1 H1 Z1 (g.trans g1) hx
  | ok f ρ1 =>
    cases f with
    | nx => exact fun σ1 H1 Z1 g1 => h σ1 H1 Z1 (g.trans g1)
    | bk => exact fun σ1 H1 Z1 g1 => h σ1 H1 Z1 (g.trans g1)
    | ct => exact fun σ1 H1 Z1 g1 => h σ1 H1 Z1 (g.trans g1)
    | rt o d => exact fun v σ1 H1 Z1 g1 hv => h v σ1 H1 Z1 (g.trans g1) hv
theorem PstU.step {res : Rs Unit} {Q : L2.St → Hp → Prop} {E : Addr → Prop} {is : List Nat} (h : PstU T W is P Z H ρ σ res Q) (g : GoT T is P Z H ρ σ Z' H' ρ' σ' E) : PstU T W is E Z' H' ρ' σ' res Q := by
  cases res with
  | no => exact h
  | ex x ρ1 => exact fun c d σ1 H1 Z1 g1 hx => h c d σ1 H1 Z1 (g.toGoS.trans g1) hx
  | ok f ρ1 => exact fun σ1 H1 Z1 g1 => h σ1 H1 Z1 (g.trans g1)
theorem PstU.mono {res : Rs Unit} {Q Q' : L2.St → Hp → Prop} {is : List Nat} (h : PstU T W is P Z H ρ σ res Q) (hq : ∀ σ' H', Q σ' H' → Q' σ' H') : PstU T W is P Z H ρ σ res Q' := by
  cases res with
  | no => exact h
  | ex x ρ1 => exact h
  | ok f ρ1 => exact fun σ1 H1 Z1 g1 => hq _ _ (h σ1 H1 Z1 g1)
/-- an expression, then a statement's rest -/
theorem PstS.bind {α β : Type} {R : (Addr → Prop) → Hp → L2.St → List En → β → α → Prop} {O : β → α → Addr → Prop} {r : Rs α} {k : α → List En → Rs Fl} {D : Ends} (h : PstS T W P Z H ρ σ (r.bd k) D)
    {Q1 : β → Hp → Prop} (hQ : ∀ v H1 x ρ1 Z1, r = .ok x ρ1 → Go T N0 Z H ρ σ Z1 H1 ρ1 (O v x) → R Z1 H1 σ ρ1 v x → PstS T W (fun a => O v x a ∨ P a) Z1 H1 ρ1 σ (k x ρ1) D → Q1 v H1) :
    Pst T W R O N0 Z H ρ σ r Q1 := by
  cases r with
  | no => exact h
  | ex x ρ1 => exact fun c d H1 Z1 g hx => h c d σ H1 Z1 (g.s.pre fun _ z => z.elim) hx
  | ok x ρ1 => exact fun v H1 Z1 g hv => hQ v H1 x ρ1 Z1 rfl g hv (PstS.step (show PstS T W P Z H ρ σ (k x ρ1) D from h) (((g.s.frame (F := P)).pre fun a z => z.elim (fun z => z.elim) id)))
theorem PstU.bind {α β : Type} {R : (Addr → Prop) → Hp → L2.St → List En → β → α → Prop} {O : β → α → Addr → Prop} {r : Rs α} {k : α → List En → Rs Unit} {Q : L2.St → Hp → Prop} {is : List Nat} (h : PstU T W is P Z H ρ σ (r.bd k) Q)
    {Q1 : β → Hp → Prop} (hQ : ∀ v H1 x ρ1 Z1, r = .ok x ρ1 → Go T N0 Z H ρ σ Z1 H1 ρ1 (O v x) → R Z1 H1 σ ρ1 v x → PstU T W is (fun a => O v x a ∨ P a) Z1 H1 ρ1 σ (k x ρ1) Q → Q1 v H1) :
    Pst T W R O N0 Z H ρ σ r Q1 := by
  cases r with
  | no => exact h
  | ex x ρ1 => exact fun c d H1 Z1 g hx => h c d σ H1 Z1 (g.s.pre fun _ z => z.elim) hx
  | ok x ρ1 => exact fun v H1 Z1 g hv => hQ v H1 x ρ1 Z1 rfl g hv (PstU.step (show PstU T W is P Z H ρ σ (k x ρ1) Q from h) (((g.t.frame (F := P)).pre fun a z => z.elim (fun z => z.elim) id)))
/-- a store, then the rest -/
theorem PstS.bindU {r : Rs Unit} {k : Unit → List En → Rs Fl} {D : Ends} {is : List Nat} (h : PstS T W P Z H ρ σ (r.bd k) D) {Q1 : L2.St → Hp → Prop}
    (hQ : ∀ σ1 H1 ρ1 Z1, r = .ok () ρ1 → GoT T is P Z H ρ σ Z1 H1 ρ1 σ1 N0 → PstS T W N0 Z1 H1 ρ1 σ1 (k () ρ1) D → Q1 σ1 H1) : PstU T W is P Z H ρ σ r Q1 := by
  cases r with
  | no => exact h
  | ex x ρ1 => exact h
  | ok x ρ1 => exact fun σ1 H1 Z1 g => hQ σ1 H1 ρ1 Z1 rfl g (PstS.step (show PstS T W P Z H ρ σ (k () ρ1) D from h) g.toGoS)
theorem PstU.bindU {r : Rs Unit} {k : Unit → List En → Rs Unit} {Q : L2.St → Hp → Prop} {is js : List Nat} (h : PstU T W js P Z H ρ σ (r.bd k) Q) (hi : ∀ j, j ∈ is → j ∈ js) {Q1 : L2.St → Hp → Prop}
    (hQ : ∀ σ1 H1 ρ1 Z1, r = .ok () ρ1 → GoT T is P Z H ρ σ Z1 H1 ρ1 σ1 N0 → PstU T W js N0 Z1 H1 ρ1 σ1 (k () ρ1) Q → Q1 σ1 H1) : PstU T W is P Z H ρ σ r Q1 := by
  cases r with
  | no => exact h
  | ex x ρ1 => exact h
  | ok x ρ1 => exact fun σ1 H1 Z1 g => hQ σ1 H1 ρ1 Z1 rfl g (PstU.step (show PstU T W js P Z H ρ σ (k () ρ1) Q from h) (g.more hi))
/-- a statement, then the next ones -/
theorem PstS.seq {r : Rs Fl} {k : List En → Rs Fl} {D : Ends} (h : PstS T W P Z H ρ σ (r.bd fun f ρ1 => match f with
    | .nx => k ρ1
    | .rt o d => .ok (.rt o d) ρ1
    | .bk => .ok .bk ρ1
    | .ct => .ok .ct ρ1) D) : PstS T W P Z H ρ σ r { D with nx := fun σ1 H1 => ∃ Z1 ρ1, r = .ok .nx ρ1 ∧ GoS T P Z H ρ σ Z1 H1 ρ1 σ1 N0 ∧ PstS T W N0 Z1 H1 ρ1 σ1 (k ρ1) D } := by
  cases r with
  | no => exact h
  | ex x ρ1 => exact h
  | ok f ρ1 =>
    cases f with
    | nx => exact fun σ1 H1 Z1 g => ⟨Z1, ρ1, rfl, g, PstS.step (show PstS T W P Z H ρ σ (k ρ1) D from h) g⟩
    | bk => exact h
    | ct => exact h
    | rt o d => exact h
/-! ### walks -/
/-- later: what is frozen, the tuples, the data stand as they were -/
structure Lt (T : Tb) (Z : Addr → Prop) (H : Hp) (Z' : Addr → Prop) (H' : Hp) : Prop where
  z : ∀ a, Z a → Z' a
  rd : ∀ a u, Z a → Rd H a u → Rd H' a u
  fz : ∀ a o u, Z a → H a = some (.frz o u) → H' a = some (.frz o u)
  tp : ∀ a xs, H a = some (.tup xs) → H' a = some (.tup xs)
  rp : ∀ v d, Rp T Z H v d → Rp T Z' H' v d
theorem Lt.refl : Lt T Z H Z H := ⟨fun _ h => h, fun _ _ _ h => h, fun _ _ _ _ h => h, fun _ _ h => h, fun _ _ h => h⟩
theorem Lt.trans (a : Lt T Z H Z' H') (b : Lt T Z' H' Z'' H'') : Lt T Z H Z'' H'' := ⟨fun x h => b.z x (a.z x h), fun x u z h => b.rd x u (a.z x z) (a.rd x u z h), fun x o u z h => b.fz x o u (a.z x z) (a.fz x o u z h), fun x xs h => b.tp x xs (a.tp x xs h), fun v d h => b.rp v d (a.rp v d h)⟩
theorem Nx.lt {O O' : Addr → Prop} (n : Nx Z H O Z' H' O') (ok : Ok Z H O) : Lt T Z H Z' H' := by
  refine ⟨n.zm, fun a u hz h => ?_, fun a o u hz h => n.keep a _ h fun q => (ok a q).1 hz, fun a xs h => n.keep a _ h fun q => ?_, fun v d h => n.rp ok h⟩
  · exact Rd.stay' (T := T) n.stays (fun q => (ok a q).1 hz) h
  · obtain ⟨_, o, e, m⟩ := ok a q
    rw [h] at e
    cases e
    exact m
theorem GoS.lt' (g : GoS T N0 Z H ρ σ Z' H' ρ' σ' P) (r : Rel T Z ρ σ H) : Lt T Z H Z' H' := g.nx.lt r.ok0
theorem Go.lt' (g : Go T N0 Z H ρ σ Z' H' ρ' P) (r : Rel T Z ρ σ H) : Lt T Z H Z' H' := g.nx.lt r.ok0
theorem Lt.rpL (l : Lt T Z H Z' H') : ∀ {vs : List V} {ds : List D}, RpL T Z H vs ds → RpL T Z' H' vs ds
  | _, _, .nil => .nil
  | _, _, .cons h t => .cons (l.rp _ _ h) (Lt.rpL l t)
/-- J walks ds, from here on -/
def Src (T : Tb) (J : L2.It) (ds : List D) (Z : Addr → Prop) (H : Hp) : Prop :=
  ∃ (G : Hp → Prop) (Y : Nat → Hp → V → Hp → Prop), Walk J ds.length G Y ∧ ∀ Z' H', Lt T Z H Z' H' → G H' ∧ ∀ i x H'' d, ds[i]? = some d → Y i H' x H'' → (H'' = H' ∨ ∃ p xs, H' p = none ∧ H'' = upd H' p (.tup xs)) ∧ Rp T Z' H'' x d
theorem src_list {K : PySem.W.Frag} {a : Addr} {vs : List V} {ds : List D} (hz : Z a) (h : Rd H a (.lst vs)) (hr : RpL T Z H vs ds) : Src T (Itl K a) ds Z H := by
  refine ⟨fun H => SqL K H a vs, YAt vs, by rw [← hr.length]; exact walk_list (xs := vs), fun Z' H' l => ⟨.inl (l.rd a _ hz h), fun i x H'' d e y => ?_⟩⟩
  obtain ⟨rfl, y⟩ := y
  obtain ⟨v, h1, h2⟩ := (l.rpL hr).get e
  rw [y] at h1
  cases h1
  exact ⟨.inl rfl, h2⟩
theorem src_tup {K : PySem.W.Frag} {a : Addr} {vs : List V} {ds : List D} (h : H a = some (.tup vs)) (hr : RpL T Z H vs ds) : Src T (Itt K a) ds Z H := by
  refine ⟨fun H => SqT K H a vs, YAt vs, by rw [← hr.length]; exact walk_tup (xs := vs), fun Z' H' l => ⟨.of (l.tp a _ h), fun i x H'' d e y => ?_⟩⟩
  obtain ⟨rfl, y⟩ := y
  obtain ⟨v, h1, h2⟩ := (l.rpL hr).get e
  rw [y] at h1
  cases h1
  exact ⟨.inl rfl, h2⟩
theorem src_rng {lo hi : Int} : Src T (Itr lo (hi - lo).toNat) (rngL lo hi) Z H := by
  have hl : (rngL lo hi).length = (hi - lo).toNat := by unfold rngL; rw [List.length_map, List.length_range]
  refine ⟨_, _, by rw [hl]; exact walk_range, fun Z' H' l => ⟨trivial, fun i x H'' d e y => ?_⟩⟩
  obtain ⟨rfl, rfl⟩ := y
  have hi' : i < (rngL lo hi).length := (List.getElem?_eq_some_iff.mp e).1
  rw [hl] at hi'
  unfold rngL at e
  rw [List.getElem?_map, List.getElem?_range hi'] at e
  cases e
  exact ⟨.inl rfl, .int _⟩
theorem zip_get : ∀ {xs ys : List D} {i : Nat} {d : D}, (zipD xs ys)[i]? = some d → ∃ x y, xs[i]? = some x ∧ ys[i]? = some y ∧ d = .tup [x, y] := by
  intro xs ys i d h
  unfold zipD at h
  rw [List.getElem?_zipWith] at h
  cases e1 : xs[i]? with
  | none => rw [e1] at h; cases h
  | some x =>
    cases e2 : ys[i]? with
    | none => rw [e1, e2] at h; cases h
    | some y =>
      rw [e1, e2] at h
      cases h
      exact ⟨x, y, rfl, rfl, rfl⟩
theorem yPair_ok {f g : Nat → Option V} {i : Nat} {v : V} {dx dy : D} (h : YPair f g i H v H') (hx : ∀ w, f i = some w → Rp T Z H w dx) (hy : ∀ w, g i = some w → Rp T Z H w dy) :
    (H' = H ∨ ∃ p xs, H p = none ∧ H' = upd H p (.tup xs)) ∧ Rp T Z H' v (.tup [dx, dy]) := by
  obtain ⟨p, a, b, rfl, hp, rfl, h1, h2⟩ := h
  exact ⟨.inr ⟨p, _, hp, rfl⟩, .tup upd_same (.cons ((hx a h1).new hp) (.cons ((hy b h2).new hp) .nil))⟩
theorem src_zip {K : PySem.W.Frag} {a b : Addr} {vs ws : List V} {ds es : List D} (hz : Z a) (h : Rd H a (.lst vs)) (hr : RpL T Z H vs ds) (hz' : Z b) (h' : Rd H b (.lst ws)) (hr' : RpL T Z H ws es) : Src T (Itz K a b) (zipD ds es) Z H := by
  have hl : (zipD ds es).length = min vs.length ws.length := by unfold zipD; rw [List.length_zipWith, hr.length, hr'.length]
  refine ⟨_, _, walk_zip (xs := vs) (ys := ws) hl, fun Z' H' l => ⟨⟨.inl (l.rd a _ hz h), .inl (l.rd b _ hz' h')⟩, fun i x H'' d e y => ?_⟩⟩
  obtain ⟨dx, dy, e1, e2, rfl⟩ := zip_get e
  refine yPair_ok y (fun w hw => ?_) fun w hw => ?_
  · obtain ⟨v, h1, h2⟩ := (l.rpL hr).get e1
    rw [hw] at h1; cases h1; exact h2
  · obtain ⟨v, h1, h2⟩ := (l.rpL hr').get e2
    rw [hw] at h1; cases h1; exact h2
theorem src_zipT {K : PySem.W.Frag} {a b : Addr} {vs ws : List V} {ds es : List D} (h : H a = some (.tup vs)) (hr : RpL T Z H vs ds) (h' : H b = some (.tup ws)) (hr' : RpL T Z H ws es) : Src T (RZ.ItzT K a b) (zipD ds es) Z H := by
  have hl : (zipD ds es).length = min vs.length ws.length := by unfold zipD; rw [List.length_zipWith, hr.length, hr'.length]
  have wk : Walk (RZ.ItzT K a b) (zipD ds es).length (fun H => SqT K H a vs ∧ SqT K H b ws) (YPair (fun i => vs[i]?) (fun i => ws[i]?)) := by
    refine ⟨fun i _ hi q => ?_, fun _ q => ⟨vs, ws, q.1, q.2, by omega⟩, fun i H v H' _ q y => ?_⟩
    · have h1 : i < vs.length := by omega
      have h2 : i < ws.length := by omega
      exact ⟨vs, ws, vs[i], ws[i], q.1, q.2, by simp [h1], by simp [h2]⟩
    · obtain ⟨T', x, y', h1, h2, h3, h4, h5⟩ := y
      exact ⟨T', x, y', h1, h2, h3, h4 vs q.1, h5 ws q.2⟩
  refine ⟨_, _, wk, fun Z' H' l => ⟨⟨.of (l.tp a _ h), .of (l.tp b _ h')⟩, fun i x H'' d e y => ?_⟩⟩
  obtain ⟨dx, dy, e1, e2, rfl⟩ := zip_get e
  refine yPair_ok y (fun w hw => ?_) fun w hw => ?_
  · obtain ⟨v, h1, h2⟩ := (l.rpL hr).get e1
    rw [hw] at h1; cases h1; exact h2
  · obtain ⟨v, h1, h2⟩ := (l.rpL hr').get e2
    rw [hw] at h1; cases h1; exact h2
theorem enum_get : ∀ {xs : List D} {k i : Nat} {d : D}, (enumD xs k)[i]? = some d → ∃ x, xs[i]? = some x ∧ d = .tup [.int ((k + i : Nat) : Int), x]
  | [], k, i, d, h => by simp [enumD] at h
  | x :: xs, k, 0, d, h => by
    have h : some (D.tup [.int k, x]) = some d := h
    cases h
    exact ⟨x, rfl, rfl⟩
  | x :: xs, k, i + 1, d, h => by
    obtain ⟨y, h1, h2⟩ := enum_get (xs := xs) (k := k + 1) (i := i) (by simpa [enumD] using h)
    exact ⟨y, by simpa using h1, by rw [h2, show k + 1 + i = k + (i + 1) by omega]⟩
theorem enum_len : ∀ (xs : List D) (k : Nat), (enumD xs k).length = xs.length
  | [], _ => rfl
  | _ :: xs, k => congrArg (· + 1) (enum_len xs (k + 1))
theorem src_enum {K : PySem.W.Frag} {a : Addr} {vs : List V} {ds : List D} (hz : Z a) (h : Rd H a (.lst vs)) (hr : RpL T Z H vs ds) : Src T (Ite K a) (enumD ds 0) Z H := by
  refine ⟨fun H => SqL K H a vs, YPair (fun i => some (.int (i : Nat))) (fun i => vs[i]?), by rw [enum_len, ← hr.length]; exact walk_enum (xs := vs), fun Z' H' l => ⟨.inl (l.rd a _ hz h), fun i x H'' d e y => ?_⟩⟩
  obtain ⟨dx, e1, rfl⟩ := enum_get e
  refine yPair_ok y (fun w hw => ?_) fun w hw => ?_
  · cases hw
    rw [Nat.zero_add]
    exact .int _
  · obtain ⟨v, h1, h2⟩ := (l.rpL hr).get e1
    rw [hw] at h1; cases h1; exact h2
end
end G
set_option maxHeartbeats 4000000
/-! F16: loops. -/
namespace G
open PySem L2 PySem.Spec PyProof.Rows
section
variable {T : Tb} {W : WX} {Z Z' Z'' : Addr → Prop} {H H' H'' : Hp} {ρ ρ' ρ'' : List En} {σ σ' σ'' : L2.St} {P : Addr → Prop} {x y : V} {d e : D} {Q : VK}
def RI (T : Tb) : (Addr → Prop) → Hp → L2.St → List En → L2.It → List D → Prop := fun Z H _ _ J ds => Src T J ds Z H
def SpI (T : Tb) (W : WX) (f : List En → Rs (List D)) : TI := fun σ H R => ∃ Z ρ, Rel T Z ρ σ H ∧ Pst T W (RI T) OB N0 Z H ρ σ (f ρ) R
theorem Rs.bd_assoc {α β γ : Type} (r : Rs α) (f : α → List En → Rs β) (g : β → List En → Rs γ) : (r.bd f).bd g = r.bd fun a ρ => (f a ρ).bd g := by
  cases r <;> rfl
/-- a step that lays at most a tuple -/
theorem yld_go (r : Rel T Z ρ σ H) (h : H'' = H ∨ ∃ p xs, H p = none ∧ H'' = upd H p (.tup xs)) : Go T N0 Z H ρ σ Z H'' ρ N0 := by
  rcases h with rfl | ⟨p, xs, hp, rfl⟩
  · exact Go.refl r
  · exact Go.new r hp fun _ z => z.elim
theorem PstS.turn {r : Rs Fl} {k : List En → Rs Fl} {D : Ends} (h : PstS T W P Z H ρ σ (r.bd fun f ρ1 => match f with
    | .nx => k ρ1
    | .ct => k ρ1
    | .bk => .ok .nx ρ1
    | .rt o d => .ok (.rt o d) ρ1) D) {N : L2.St → Hp → Prop} (hN : ∀ Z1 σ1 H1 ρ1, GoS T P Z H ρ σ Z1 H1 ρ1 σ1 N0 → PstS T W N0 Z1 H1 ρ1 σ1 (k ρ1) D → N σ1 H1) :
    PstS T W P Z H ρ σ r { D with nx := N, ct := N, bk := D.nx } := by
  cases r with
  | no => exact h
  | ex x ρ1 => exact h
  | ok f ρ1 =>
    cases f with
    | nx => exact fun σ1 H1 Z1 g => hN Z1 σ1 H1 ρ1 g (PstS.step (show PstS T W P Z H ρ σ (k ρ1) D from h) g)
    | ct => exact fun σ1 H1 Z1 g => hN Z1 σ1 H1 ρ1 g (PstS.step (show PstS T W P Z H ρ σ (k ρ1) D from h) g)
    | bk => exact h
    | rt o d => exact h
theorem PstS.n0 {res : Rs Fl} {D : Ends} (h : PstS T W P Z H ρ σ res D) (hP : ∀ a, P a → False) : PstS T W N0 Z H ρ σ res D := by
  have e : P = N0 := funext fun a => propext ⟨hP a, False.elim⟩
  rw [e] at h
  exact h
theorem sp_for {is : List Nat} {fi : List En → Rs (List D)} {fb : D → List En → Rs Unit} {fs : List En → Rs Fl} {D : Ends} {σ : L2.St} {H : Hp} (h : SpS T W (fun ρ => (fi ρ).bd fun xs ρ1 => flp (fun x ρ2 => (fb x ρ2).bd fun _ ρ3 => fs ρ3) xs ρ1) D σ H) :
    tFor (SpI T W fi) (SpG T W is fb) (SpS T W fs) D σ H := by
  obtain ⟨Z, ρ, r, h⟩ := h
  refine ⟨Z, ρ, r, PstS.bind h fun J H1 ds ρ1 Z1 _ g hsrc h1 => ?_⟩
  obtain ⟨G, Y, wk, hl⟩ := hsrc
  refine for_it wk (fun i σ' H' => ∃ Z' ρ', Rel T Z' ρ' σ' H' ∧ Lt T Z1 H1 Z' H' ∧ PstS T W N0 Z' H' ρ' σ' (flp (fun x ρ2 => (fb x ρ2).bd fun _ ρ3 => fs ρ3) (ds.drop i) ρ') D) ?_ ?_ ?_ ?_
  · exact ⟨Z1, ρ1, g.rel, Lt.refl, h1.n0 fun a z => z.elim id id⟩
  · rintro i σ' H' _ ⟨Z', ρ', r', lt, _⟩
    exact (hl Z' H' lt).1
  · rintro i x σ' H' H'' hlt ⟨Z', ρ', r', lt, hp⟩ y
    have hd : ds[i]? = some ds[i] := List.getElem?_eq_getElem hlt
    obtain ⟨q1, q2⟩ := (hl Z' H' lt).2 i x H'' _ hd y
    have g1 := yld_go r' q1
    rw [List.drop_eq_getElem_cons hlt] at hp
    have hp : PstS T W N0 Z' H' ρ' σ' ((((fb ds[i] ρ').bd fun _ ρ3 => fs ρ3)).bd fun f ρ1 => match f with
      | .nx => flp (fun x ρ2 => (fb x ρ2).bd fun _ ρ3 => fs ρ3) (ds.drop (i + 1)) ρ1
      | .ct => flp (fun x ρ2 => (fb x ρ2).bd fun _ ρ3 => fs ρ3) (ds.drop (i + 1)) ρ1
      | .bk => .ok .nx ρ1
      | .rt o d => .ok (.rt o d) ρ1) D := hp
    rw [Rs.bd_assoc] at hp
    refine ⟨Z', ρ', ds[i], g1.rel, q2, PstS.bindU (PstS.step hp g1.s) fun σ2 H2 ρ2 Z2 _ g2 h2 => ?_⟩
    refine ⟨Z2, ρ2, g2.rel, PstS.turn h2 fun Z3 σ3 H3 ρ3 g3 h3 => ⟨Z3, ρ3, g3.rel, ?_, h3⟩⟩
    exact ((lt.trans (g1.lt' r')).trans (g2.toGoS.lt' g1.rel)).trans (g3.lt' g2.rel)
  · rintro σ' H' ⟨Z', ρ', r', _, hp⟩
    rw [List.drop_length] at hp
    exact (show PstS T W N0 Z' H' ρ' σ' (.ok .nx ρ') D from hp) σ' H' Z' (GoS.refl r')
theorem sp_whl {ft : List En → Rs Bool} {fs : List En → Rs Fl} {D : Ends} {σ : L2.St} {H : Hp} {n : Nat} (h : SpS T W (fun ρ => wlp ft fs n ρ) D σ H) : tWhile (SpT T W ft) (SpS T W fs) D σ H := by
  obtain ⟨Z, ρ, r, h⟩ := h
  refine ⟨fun m σ H => ∃ Z ρ, Rel T Z ρ σ H ∧ PstS T W N0 Z H ρ σ (wlp ft fs m ρ) D, ⟨n, Z, ρ, r, h⟩, ?_⟩
  rintro m σ1 H1 ⟨Z1, ρ1, r1, h1⟩
  cases m with
  | zero => exact h1.elim
  | succ m =>
    have h1 : PstS T W N0 Z1 H1 ρ1 σ1 ((ft ρ1).bd fun c ρ1 => if c then (fs ρ1).bd fun r ρ2 => match r with
      | .nx => wlp ft fs m ρ2
      | .ct => wlp ft fs m ρ2
      | .bk => .ok .nx ρ2
      | .rt o d => .ok (.rt o d) ρ2
      else .ok .nx ρ1) D := h1
    refine ⟨Z1, ρ1, r1, PstS.bind (R := RB) (O := OB) h1 fun b H2 c ρ2 Z2 _ g hb h2 => ?_⟩
    have hb : b = c := hb
    subst hb
    have h2 := h2.n0 fun a z => z.elim id id
    cases b with
    | true =>
      rw [if_pos rfl]
      refine ⟨fun σ' H' => ∃ Z ρ, Rel T Z ρ σ' H' ∧ PstS T W N0 Z H' ρ σ' (wlp ft fs m ρ) D, fun σ' H' q => ⟨m, Nat.lt_succ_self m, q⟩, Z2, ρ2, g.rel, ?_⟩
      exact PstS.turn (show PstS T W N0 Z2 H2 ρ2 σ1 ((fs ρ2).bd fun r ρ2 => match r with
        | .nx => wlp ft fs m ρ2
        | .ct => wlp ft fs m ρ2
        | .bk => .ok .nx ρ2
        | .rt o d => .ok (.rt o d) ρ2) D from h2) fun Z3 σ3 H3 ρ3 g3 h3 => ⟨Z3, ρ3, g3.rel, h3⟩
    | false =>
      rw [if_neg Bool.false_ne_true]
      exact (show PstS T W N0 Z2 H2 ρ2 σ1 (.ok .nx ρ2) D from h2) σ1 H2 Z2 (GoS.refl g.rel)
/-! ### what is walked -/
variable {fa fb : List En → Rs Vl}
theorem Pst.list {β α : Type} {R : (Addr → Prop) → Hp → L2.St → List En → β → α → Prop} {O : β → α → Addr → Prop} {k : (Bool × D) → List En → Rs α} {Q : β → Hp → Prop} {v : V} {xv : Vl} (r : Rel T Z ρ σ H) (hv : VlR T Z H σ ρ v xv)
    (h : Pst T W R O P Z H ρ σ ((esc xv ρ).bd k) Q) (hP : ∀ a, Ov v xv a → P a) : ∃ o d ρ' Z', Rel T Z' ρ' σ H ∧ Rp T Z' H v d ∧ Lt T Z H Z' H ∧ Go T (Ov v xv) Z H ρ σ Z' H ρ' N0 ∧ Pst T W R O N0 Z' H ρ' σ (k (o, d) ρ') Q := by
  cases e : esc xv ρ with
  | no => rw [e] at h; exact h.elim
  | ex y ρ2 => exact (esc_noex e).elim
  | ok p ρ2 =>
    obtain ⟨o, d⟩ := p
    rw [e] at h
    obtain ⟨Z', g, q⟩ := escf_ok r hv e
    exact ⟨o, d, ρ2, Z', g.rel, q, g.nx.lt (r.okO.or hv.okV), g, Pst.step h (g.pre hP)⟩
/-- a list or a tuple -/
theorem spI_val {σ : L2.St} {H : Hp} {R : L2.It → Hp → Prop} (h : SpI T W (fun ρ => (fa ρ).bd fun x ρ1 => (esc x ρ1).bd fun d ρ2 => toL d.2 ρ2) σ H R) : Sp T W fa σ H fun x H1 => (∃ a, x = .ref a ∧ (∃ xs, SqL T.K H1 a xs) ∧ R (Itl T.K a) H1) ∨ ∃ a, x = .ref a ∧ (∃ xs, SqT T.K H1 a xs) ∧ R (Itt T.K a) H1 := by
  obtain ⟨Z, ρ, r, h⟩ := h
  refine ⟨Z, ρ, r, Pst.bind h fun v H1 x ρ1 Z1 _ g hv h1 => ?_⟩
  obtain ⟨o, d, ρ2, Z2, r2, q, _, _, h2⟩ := Pst.list g.rel hv h1 fun a z => .inl z
  cases d with
  | lst ds =>
    cases q with
    | lst hz h3 h4 => exact .inl ⟨_, rfl, ⟨_, .inl h3⟩, Pst.val r2 (show Pst T W (RI T) OB N0 Z2 H1 ρ2 σ (.ok ds ρ2) R from h2) (v := Itl T.K _) (src_list hz h3 h4) fun _ z => z.elim⟩
  | tup ds =>
    cases q with
    | tup h3 h4 => exact .inr ⟨_, rfl, ⟨_, .of h3⟩, Pst.val r2 (show Pst T W (RI T) OB N0 Z2 H1 ρ2 σ (.ok ds ρ2) R from h2) (v := Itt T.K _) (src_tup h3 h4) fun _ z => z.elim⟩
  | _ => exact h2.elim
theorem pi_val {X : Cx} {tg l : Expr} {fa : List En → Rs Vl} (hK : X.K = T.K) (hl : PE X l (Sp T W fa)) : PI X tg l (SpI T W (fun ρ => (fa ρ).bd fun x ρ1 => (esc x ρ1).bd fun d ρ2 => toL d.2 ρ2)) := by
  refine ⟨fun pins s σ H R I h => ?_⟩
  have h := spI_val h
  rw [← hK] at h
  refine thn (hl.run pins s σ H _ I h) fun v s1 ⟨x, H1, I1, r1, q1⟩ => ?_
  rcases q1 with ⟨a, e, ⟨xs, hq⟩, q⟩ | ⟨a, e, ⟨xs, hq⟩, q⟩
  · subst e
    cases r1
    obtain ⟨its, rv, p, hz⟩ := I1.list hq
    refine wpAny_pyIter_list p.isList ?_
    refine ⟨s1.heap.objs.size, [s1.heap.objs.size], _, _, H1, rfl, I1.kept (t' := s1.toks) fun b o e => Heap.get?_push_of_some _ e, turn_list a _, ⟨_, Heap.get?_push_size _ rfl, rfl, rfl⟩, fun b hb => ?_, q⟩
    have e : b = s1.heap.objs.size := by simpa using hb
    subst e
    exact I1.fpOk (Nat.le_refl _) (I1.hok.fresh (Nat.le_refl _))
  · subst e
    cases r1
    obtain ⟨its, rv, p, hz⟩ := I1.tuple hq
    refine wpAny_pyIter_tuple (show s1.heap.IsTuple a its.toArray from p) ?_
    refine ⟨s1.heap.objs.size, [s1.heap.objs.size], _, _, H1, rfl, I1.kept (t' := s1.toks) fun b o e => Heap.get?_push_of_some _ e, turn_tuple a _, ⟨_, Heap.get?_push_size _ rfl, rfl, rfl⟩, fun b hb => ?_, q⟩
    have e : b = s1.heap.objs.size := by simpa using hb
    subst e
    exact I1.fpOk (Nat.le_refl _) (I1.hok.fresh (Nat.le_refl _))
theorem PI.imp {X : Cx} {tg l : Expr} {t t' : TI} (h : PI X tg l t) (i : ∀ σ H R, t' σ H R → t σ H R) : PI X tg l t' := ⟨fun pins s σ H R I q => h.run pins s σ H R I (i σ H R q)⟩
theorem rngOk_spec {a b : Int} (h : rngOk a b = true) : -(2 ^ 62) ≤ a ∧ a < 2 ^ 62 ∧ -(2 ^ 62) ≤ b ∧ b < 2 ^ 62 := by
  simp only [rngOk, Bool.and_eq_true, decide_eq_true_eq] at h
  obtain ⟨h1, h2⟩ := h
  exact ⟨by omega, by omega, by omega, by omega⟩
theorem spI_rng1 {σ : L2.St} {H : Hp} {R : L2.It → Hp → Prop} (h : SpI T W (fun ρ => (fa ρ).bd fun x ρ1 => (toI (rd x ρ1) ρ1).bd fun n ρ2 => if rngOk 0 n then .ok (rngL 0 n) ρ2 else .no) σ H R) : iRng1 (tCons (Sp T W fa) tNil) σ H R := by
  obtain ⟨Z, ρ, r, h⟩ := h
  refine ⟨Z, ρ, r, Pst.bind h fun v H1 x ρ1 Z1 _ g hv h1 => ?_⟩
  obtain ⟨n, e, h1⟩ := Pst.toI h1
  have q := hv.vw g.rel
  rw [e] at q
  obtain rfl := q.int
  obtain ⟨c, h1⟩ := Pst.ifz h1
  have c := rngOk_spec c
  refine ⟨n, rfl, c.2.2.1, c.2.2.2, Pst.val g.rel h1 (v := Itr 0 n.toNat) ?_ fun _ z => z.elim⟩
  have := src_rng (T := T) (Z := Z1) (H := H1) (lo := 0) (hi := n)
  rw [Int.sub_zero] at this
  exact this
theorem spI_rng2 {σ : L2.St} {H : Hp} {R : L2.It → Hp → Prop} (h : SpI T W (fun ρ => (fa ρ).bd fun x ρ1 => (fb ρ1).bd fun y ρ2 => (toI (rd x ρ2) ρ2).bd fun n ρ3 => (toI (rd y ρ3) ρ3).bd fun m ρ4 => if rngOk n m then .ok (rngL n m) ρ4 else .no) σ H R) :
    iRng2 (tCons (Sp T W fa) (tCons (Sp T W fb) tNil)) σ H R := by
  obtain ⟨Z, ρ, r, h⟩ := h
  refine ⟨Z, ρ, r, Pst.bind h fun v H1 x ρ1 Z1 _ g hv h1 => ?_⟩
  refine ⟨Z1, ρ1, g.rel, Pst.bind h1 fun w H2 y ρ2 Z2 _ g2 hw h2 => ?_⟩
  obtain ⟨n, e, h2⟩ := Pst.toI h2
  obtain ⟨m, e', h2⟩ := Pst.toI h2
  have q := (hv.go g.rel g2).vw g2.rel
  have q' := hw.vw g2.rel
  rw [e] at q
  rw [e'] at q'
  obtain rfl := q.int
  obtain rfl := q'.int
  obtain ⟨c, h2⟩ := Pst.ifz h2
  exact ⟨n, m, rfl, rngOk_spec c, Pst.val g2.rel h2 (v := Itr n (m - n).toNat) src_rng fun _ z => z.elim⟩
theorem spI_zip {σ : L2.St} {H : Hp} {R : L2.It → Hp → Prop} (h : SpI T W (fun ρ => (fa ρ).bd fun x ρ1 => (fb ρ1).bd fun y ρ2 => (esc x ρ2).bd fun c ρ3 => (esc y ρ3).bd fun d ρ4 => match zipK c.2 d.2 with
    | some xs => .ok xs ρ4
    | none => .no) σ H R) : RZ.iZipA T.K (tCons (Sp T W fa) (tCons (Sp T W fb) tNil)) σ H R := by
  obtain ⟨Z, ρ, r, h⟩ := h
  refine ⟨Z, ρ, r, Pst.bind h fun v H1 x ρ1 Z1 _ g hv h1 => ?_⟩
  refine ⟨Z1, ρ1, g.rel, Pst.bind h1 fun w H2 y ρ2 Z2 _ g2 hw h2 => ?_⟩
  have hv2 := hv.go g.rel g2
  have sep : ∀ a, Ov v x a → ¬ Ov w y a := fun a ha hb => by
    rcases g2.nx.on a (.inr hb) with z | z
    · exact z.elim (hv.nos a ha) id
    · exact hv.obj ha z
  cases e : esc x ρ2 with
  | no => rw [e] at h2; exact h2.elim
  | ex y ρ2 => exact (esc_noex e).elim
  | ok p ρ3 =>
    obtain ⟨o, d⟩ := p
    rw [e] at h2
    obtain ⟨Z3, g3, q⟩ := escf_ok g2.rel hv2 e
    have hw3 : VlR T Z3 H2 σ ρ3 w y := hw.step g3 (g2.rel.okO.or hv2.okV) fun a ha z => sep a z ha
    have h3 := Pst.step h2 ((g3.frame (F := Ov w y)).pre (Q := fun a => Ov w y a ∨ Ov v x a ∨ N0 a) fun a z => z.elim (fun z => .inr (.inl z)) .inl)
    obtain ⟨o', d', ρ4, Z4, r4, q4, l4, g4, h4⟩ := Pst.list g3.rel hw3 h3 fun a z => .inr z
    have q := l4.rp _ _ q
    cases d with
    | lst xs =>
      cases d' with
      | lst ys =>
        cases q with
        | lst z1 s1 t1 =>
          cases q4 with
          | lst z2 s2 t2 => exact ⟨_, _, _, _, rfl, .inl ⟨.inl s1, .inl s2, Pst.val r4 h4 (v := Itz T.K _ _) (src_zip z1 s1 t1 z2 s2 t2) fun _ z => z.elim⟩⟩
      | _ => exact h4.elim
    | tup xs =>
      cases d' with
      | tup ys =>
        cases q with
        | tup s1 t1 =>
          cases q4 with
          | tup s2 t2 => exact ⟨_, _, _, _, rfl, .inr ⟨.of s1, .of s2, Pst.val r4 h4 (v := RZ.ItzT T.K _ _) (src_zipT s1 t1 s2 t2) fun _ z => z.elim⟩⟩
      | _ => exact h4.elim
    | _ => cases d' <;> exact h4.elim
theorem spI_enm {σ : L2.St} {H : Hp} {R : L2.It → Hp → Prop} (h : SpI T W (fun ρ => (fa ρ).bd fun x ρ1 => (esc x ρ1).bd fun d ρ2 => match d.2 with
    | .lst xs => .ok (enumD xs 0) ρ2
    | _ => .no) σ H R) : iEnum T.K (tCons (Sp T W fa) tNil) σ H R := by
  obtain ⟨Z, ρ, r, h⟩ := h
  refine ⟨Z, ρ, r, Pst.bind h fun v H1 x ρ1 Z1 _ g hv h1 => ?_⟩
  obtain ⟨o, d, ρ2, Z2, r2, q, _, _, h2⟩ := Pst.list g.rel hv h1 fun a z => .inl z
  cases d with
  | lst ds =>
    cases q with
    | lst hz h3 h4 => exact ⟨_, _, rfl, .inl h3, Pst.val r2 h2 (v := Ite T.K _) (src_enum hz h3 h4) fun _ z => z.elim⟩
  | _ => exact h2.elim
end
end G
set_option maxHeartbeats 4000000
/-! F17: comprehensions. -/
namespace G
open PySem L2 PySem.Spec PyProof.Rows
section
variable {T : Tb} {W : WX} {Z Z' Z'' : Addr → Prop} {H H' H'' : Hp} {ρ ρ' ρ'' : List En} {σ σ' σ'' : L2.St} {P : Addr → Prop} {x y : V} {d e : D} {Q : VK}
/-! ### own slots forgotten, brought back -/
theorem wp_len : ∀ (vs : List Nat) (ρ : List En), (wp vs ρ).length = ρ.length
  | [], _ => rfl
  | v :: vs, ρ => by
    show ((wp vs ρ).set v .un).length = _
    rw [List.length_set, wp_len vs ρ]
theorem gt_wp : ∀ (vs : List Nat) (ρ : List En) (j : Nat), gt (wp vs ρ) j = if j ∈ vs then .un else gt ρ j
  | [], ρ, j => by simp [wp]
  | v :: vs, ρ, j => by
    show gt ((wp vs ρ).set v .un) j = _
    rw [gt_set, gt_wp vs ρ j]
    by_cases e : v = j
    · subst e
      rw [if_pos List.mem_cons_self]
      by_cases hl : v < (wp vs ρ).length
      · rw [if_pos ⟨rfl, hl⟩]
      · rw [if_neg fun z => hl z.2]
        split
        · rfl
        · rw [wp_len] at hl
          unfold gt
          rw [List.getElem?_eq_none (by omega)]
          rfl
    · rw [if_neg fun z => e z.1]
      by_cases h : j ∈ vs
      · rw [if_pos h, if_pos (List.mem_cons_of_mem _ h)]
      · rw [if_neg h, if_neg fun z => (List.mem_cons.mp z).elim (fun q => e q.symm) h]
theorem bk_len : ∀ (vs : List Nat) (ρ0 ρ : List En), (bk vs ρ0 ρ).length = ρ.length
  | [], _, _ => rfl
  | v :: vs, ρ0, ρ => by
    show ((bk vs ρ0 ρ).set v _).length = _
    rw [List.length_set, bk_len vs ρ0 ρ]
theorem gt_bk (hl : ρ'.length = ρ.length) : ∀ (vs : List Nat) (j : Nat), gt (bk vs ρ ρ') j = if j ∈ vs then gt ρ j else gt ρ' j
  | [], j => by simp [bk]
  | v :: vs, j => by
    show gt ((bk vs ρ ρ').set v (gt ρ v)) j = _
    rw [gt_set, gt_bk hl vs j]
    by_cases e : v = j
    · subst e
      rw [if_pos List.mem_cons_self]
      by_cases hv : v < (bk vs ρ ρ').length
      · rw [if_pos ⟨rfl, hv⟩]
      · rw [if_neg fun z => hv z.2]
        split
        · rfl
        · rw [bk_len] at hv
          unfold gt
          rw [List.getElem?_eq_none (by omega), List.getElem?_eq_none (by omega)]
    · rw [if_neg fun z => e z.1]
      by_cases h : j ∈ vs
      · rw [if_pos h, if_pos (List.mem_cons_of_mem _ h)]
      · rw [if_neg h, if_neg fun z => (List.mem_cons.mp z).elim (fun q => e q.symm) h]
theorem wipe_at : ∀ (vs : List Nat) (σ : L2.St) (j : Nat), j ∉ vs → (wipe σ vs)[j]? = σ[j]? := fun vs σ j h => wipe_out h
theorem wipe_in : ∀ (vs : List Nat) (σ : L2.St) (j : Nat), j ∈ vs → j < σ.length → (wipe σ vs)[j]? = some none
  | [], _, _, h, _ => nomatch h
  | v :: vs, σ, j, h, hl => by
    show ((wipe σ vs).set v none)[j]? = _
    by_cases e : v = j
    · subst e
      rw [List.getElem?_set_self (by rw [wipe_length]; exact hl)]
    · rw [List.getElem?_set_ne e]
      exact wipe_in vs σ j ((List.mem_cons.mp h).resolve_left fun q => e q.symm) hl
theorem gv_wipe (vs : List Nat) (σ : L2.St) (j : Nat) (h : j ∉ vs) : gv (wipe σ vs) j = gv σ j := by
  unfold gv
  rw [wipe_at vs σ j h]
/-- two states that differ at forgotten slots alone -/
theorem wipe_eq {vs : List Nat} (hl : σ'.length = σ.length) (h : ∀ j, j ∉ vs → σ'[j]? = σ[j]?) : wipe σ' vs = wipe σ vs := by
  apply List.ext_getElem?
  intro j
  by_cases hj : j ∈ vs
  · by_cases h1 : j < σ.length
    · rw [wipe_in vs σ' j hj (by omega), wipe_in vs σ j hj h1]
    · rw [List.getElem?_eq_none (by rw [wipe_length]; omega), List.getElem?_eq_none (by rw [wipe_length]; omega)]
  · rw [wipe_at vs σ' j hj, wipe_at vs σ j hj, h j hj]
theorem wp_own {vs : List Nat} {j : Nat} {a : Addr} (h : Own (wp vs ρ) (wipe σ vs) j a) : j ∉ vs ∧ Own ρ σ j a := by
  obtain ⟨⟨w, d, e, hw⟩, hv⟩ := h
  rw [gt_wp] at e
  by_cases hj : j ∈ vs
  · rw [if_pos hj] at e
    cases e
  · rw [if_neg hj] at e
    rw [gv_wipe vs σ j hj] at hv
    exact ⟨hj, ⟨w, d, e, hw⟩, hv⟩
theorem Rel.wp {vs : List Nat} (r : Rel T Z ρ σ H) : Rel T Z (wp vs ρ) (wipe σ vs) H := by
  refine ⟨by rw [wp_len, wipe_length]; exact r.len, fun j => ?_, fun i j a h1 h2 => r.sep i j a (wp_own h1).2 (wp_own h2).2, fun a ⟨j, h⟩ => r.zs a ⟨j, (wp_own h).2⟩, r.zd⟩
  rw [gt_wp]
  by_cases hj : j ∈ vs
  · rw [if_pos hj]
    trivial
  · rw [if_neg hj, gv_wipe vs σ j hj]
    exact r.sl j
/-! ### a thing of none is changed -/
theorem Nx.mut {O : Addr → Prop} {a : Addr} {o : HO} (ha : O a) (hn : H a ≠ none) : Nx Z H O Z (upd H a o) O :=
  ⟨fun b u h n => by rw [upd_ne (fun e => n (by rw [e]; exact ha))]; exact h, fun b h => by
    by_cases e : b = a
    · rw [e, upd_same] at h; cases h
    · rw [upd_ne e] at h; exact h, fun _ h => h, fun _ h => .inl h, fun _ h => .inl h⟩
theorem Lt.mut {a : Addr} {xs : List V} {o : HO} (hz : ¬ Z a) (ha : H a = some (.lst xs)) : Lt T Z H Z (upd H a o) := by
  have ne : ∀ b, Z b → b ≠ a := fun b h e => hz (by rw [← e]; exact h)
  refine ⟨fun _ h => h, fun b u h q => ?_, fun b o u h q => by rw [upd_ne (ne b h)]; exact q, fun b ys q => ?_, fun v d h => ?_⟩
  · rcases q with q | ⟨o', q⟩
    · exact .inl (by rw [upd_ne (ne b h)]; exact q)
    · exact .inr ⟨o', by rw [upd_ne (ne b h)]; exact q⟩
  · rw [upd_ne (fun e => by rw [e, ha] at q; cases q)]
    exact q
  · exact Rp.stay (O := fun b => b = a) ⟨fun b o' h n => by rw [upd_ne n]; exact h, fun _ h => h⟩ (fun b e => by rw [e]; exact hz) (fun b e => by rw [e]; exact ⟨_, ha, trivial⟩) h
theorem Rel.mut {a : Addr} {xs : List V} {o : HO} (r : Rel T Z ρ σ H) (hz : ¬ Z a) (ha : H a = some (.lst xs)) (no : ¬ Os ρ σ a) : Rel T Z ρ σ (upd H a o) := by
  refine ⟨r.len, fun j => (r.sl j).stay (O := fun b => b = a) ⟨fun b o' h n => by rw [upd_ne n]; exact h, fun _ h => h⟩ (fun b e => by rw [e]; exact hz) (fun b e => by rw [e]; exact ⟨_, ha, trivial⟩) fun w d b h1 h2 h3 h4 => ?_, r.sep, r.zs, fun b h => ?_⟩
  · exact no ⟨j, ⟨w, d, h1, h2⟩, by rw [h3, h4]⟩
  · by_cases e : b = a
    · rw [e, upd_same]; exact fun z => nomatch z
    · rw [upd_ne e]; exact r.zd b h
/-! ### the turns -/
/-- what stands between two turns: from (Z1, H1, ρ1) on, the new list at L with acc -/
structure Tn (T : Tb) (vs : List Nat) (Z1 : Addr → Prop) (H1 : Hp) (ρ1 : List En) (σ : L2.St) (L : Addr) (Z : Addr → Prop) (H : Hp) (ρ : List En) : Prop where
  rel : Rel T Z ρ (wipe σ vs) H
  lt : Lt T Z1 H1 Z H
  nx : Nx Z1 H1 (Os ρ1 σ) Z H (fun a => Os ρ (wipe σ vs) a ∨ ((∃ v, v ∈ vs ∧ Own ρ1 σ v a) ∨ a = L))
  hid : ∀ a, (∃ v, v ∈ vs ∧ Own ρ1 σ v a) → ¬ Os ρ (wipe σ vs) a ∧ ¬ Z a ∧ H a = H1 a
  own : ¬ Os ρ (wipe σ vs) L ∧ ¬ Z L
  new : H1 L = none
  df : ∀ j w d, j ∉ vs → gt ρ1 j = .da w d → ∃ w' d', gt ρ j = .da w' d' ∧ (w = .l → w' = .l) ∧ (w' = .l → w = .l)
theorem Tn.start {vs : List Nat} {L : Addr} (r : Rel T Z ρ σ H) (hL : H L = none) {o : HO} : Tn T vs Z H ρ σ L Z (upd H L o) (wp vs ρ) := by
  have hn : ∀ a, H a ≠ none → a ≠ L := fun a h e => h (by rw [e]; exact hL)
  have g : Go T N0 Z H ρ σ Z (upd H L o) ρ N0 := Go.new r hL fun _ z => z.elim
  refine ⟨(r.new hL).wp, g.lt' r, Nx.new hL fun a q => ?_, fun a ⟨v, hv, ho⟩ => ⟨fun ⟨j, hj⟩ => ?_, r.zs a ⟨v, ho⟩, ?_⟩, ⟨fun ⟨j, hj⟩ => r.osN hL ⟨j, (wp_own hj).2⟩, fun z => r.zd L z hL⟩, hL, fun j w d hj h => ⟨w, d, by rw [gt_wp, if_neg hj]; exact h, id, id⟩⟩
  · rcases q with ⟨j, q⟩ | ⟨v, _, q⟩ | q
    · exact .inl ⟨j, (wp_own q).2⟩
    · exact .inl ⟨v, q⟩
    · exact .inr q
  · obtain ⟨h1, h2⟩ := wp_own hj
    have e := r.sep j v a h2 ho
    rw [e] at h1
    exact h1 hv
  · obtain ⟨u, e, _⟩ := r.osH ⟨v, ho⟩
    rw [upd_ne (hn a (by rw [e]; exact fun z => nomatch z))]
/-- a turn's step -/
theorem Tn.step {vs is : List Nat} {Z1 : Addr → Prop} {H1 : Hp} {ρ1 : List En} {L : Addr} {E : Addr → Prop} (t : Tn T vs Z1 H1 ρ1 σ L Z H ρ) (r1 : Rel T Z1 ρ1 σ H1) (hL : H L ≠ none) (g : GoT T is N0 Z H ρ (wipe σ vs) Z' H' ρ' σ' E) (hi : ∀ j, j ∈ is → j ∈ vs) :
    Tn T vs Z1 H1 ρ1 σ L Z' H' (wp vs ρ') ∧ wipe σ' vs = wipe σ vs ∧ H' L = H L := by
  have hw : wipe σ' vs = wipe σ vs := by
    refine (wipe_eq (σ := wipe σ vs) g.len fun j hj => g.dif j fun z => hj (hi j z)).trans ?_
    refine wipe_eq (by rw [wipe_length]) fun j hj => wipe_at vs σ j hj
  have ho : ∀ a, Os (wp vs ρ') (wipe σ vs) a → Os ρ' σ' a := fun a ⟨j, h⟩ => by rw [← hw] at h; exact ⟨j, (wp_own h).2⟩
  have keep : ∀ a, H a ≠ none → ¬ Os ρ (wipe σ vs) a → H' a = H a := fun a h1 h2 => by
    cases e : H a with
    | none => exact absurd e h1
    | some u => exact g.nx.keep a u e fun z => z.elim h2 id
  have free : ∀ a, H a ≠ none → ¬ Os ρ (wipe σ vs) a → ¬ Z a → ¬ Os (wp vs ρ') (wipe σ vs) a ∧ ¬ Z' a := fun a h1 h2 h3 => by
    refine ⟨fun z => ?_, fun z => ?_⟩
    · rcases g.nx.on a (.inl (ho a z)) with q | q
      · exact q.elim h2 id
      · exact h1 q
    · rcases g.nx.zn a z with q | q | q
      · exact h3 q
      · exact q.elim h2 id
      · exact h1 q
  refine ⟨⟨by rw [← hw]; exact g.rel.wp, t.lt.trans (g.nx.lt t.rel.ok0), t.nx.trans (((g.nx.frame (P := fun a => (∃ v, v ∈ vs ∧ Own ρ1 σ v a) ∨ a = L)).pre fun a q => q.imp (fun q => q.elim id fun q => q.elim) id).weak fun a q => q.imp (fun q => .inl (ho a q)) id),
    fun a ha => ?_, ?_, t.new, fun j w d hj h => ?_⟩, hw, keep L hL t.own.1⟩
  · obtain ⟨h1, h2, h3⟩ := t.hid a ha
    obtain ⟨v, _, hv⟩ := ha
    obtain ⟨u, e, _⟩ := r1.osH ⟨v, hv⟩
    have hn : H a ≠ none := by rw [h3, e]; exact fun z => nomatch z
    exact ⟨(free a hn h1 h2).1, (free a hn h1 h2).2, by rw [keep a hn h1, h3]⟩
  · exact free L hL t.own.1 t.own.2
  · obtain ⟨w1, d1, e1, l1, l2⟩ := t.df j w d hj h
    obtain ⟨w2, d2, e2, l3, l4⟩ := g.df j w1 d1 (fun z => hj (hi j z)) e1
    exact ⟨w2, d2, by rw [gt_wp, if_neg hj]; exact e2, fun q => l3 (l1 q), fun q => l2 (l4 q)⟩
/-- the new list grows -/
theorem Tn.app {vs : List Nat} {Z1 : Addr → Prop} {H1 : Hp} {ρ1 : List En} {L : Addr} {acc : List V} {o : HO} (t : Tn T vs Z1 H1 ρ1 σ L Z H ρ) (r1 : Rel T Z1 ρ1 σ H1) (hL : H L = some (.lst acc)) : Tn T vs Z1 H1 ρ1 σ L Z (upd H L o) ρ := by
  refine ⟨t.rel.mut t.own.2 hL t.own.1, t.lt.trans (Lt.mut t.own.2 hL), t.nx.trans (Nx.mut (.inr (.inr rfl)) (by rw [hL]; exact fun z => nomatch z)), fun a ha => ?_, t.own, t.new, t.df⟩
  obtain ⟨h1, h2, h3⟩ := t.hid a ha
  refine ⟨h1, h2, ?_⟩
  obtain ⟨v, _, hv⟩ := ha
  obtain ⟨u, e, _⟩ := r1.osH ⟨v, hv⟩
  rw [upd_ne (fun q => by rw [q, t.new] at e; cases e)]
  exact h3
/-- behind the last turn: own slots as they were -/
theorem Tn.done {vs : List Nat} {Z1 : Addr → Prop} {H1 : Hp} {ρ1 : List En} {L : Addr} {E : Addr → Prop} (t : Tn T vs Z1 H1 ρ1 σ L Z H ρ) (r1 : Rel T Z1 ρ1 σ H1) (hE : ∀ a, E a → a = L) :
    Go T P Z1 H1 ρ1 σ Z H (bk vs ρ1 ρ) E ∧ ¬ Os (bk vs ρ1 ρ) σ L := by
  have hl : ρ.length = ρ1.length := by rw [t.rel.len, wipe_length, r1.len]
  have own : ∀ j a, Own (bk vs ρ1 ρ) σ j a → (j ∈ vs ∧ Own ρ1 σ j a) ∨ (j ∉ vs ∧ Own ρ (wipe σ vs) j a) := fun j a ⟨⟨w, d, e, hw⟩, hv⟩ => by
    rw [gt_bk hl] at e
    by_cases hj : j ∈ vs
    · rw [if_pos hj] at e
      exact .inl ⟨hj, ⟨w, d, e, hw⟩, hv⟩
    · rw [if_neg hj] at e
      exact .inr ⟨hj, ⟨w, d, e, hw⟩, by rw [gv_wipe vs σ j hj]; exact hv⟩
  have os : ∀ a, Os (bk vs ρ1 ρ) σ a → Os ρ (wipe σ vs) a ∨ ∃ v, v ∈ vs ∧ Own ρ1 σ v a := fun a ⟨j, h⟩ => by
    rcases own j a h with ⟨h1, h2⟩ | ⟨_, h2⟩
    · exact .inr ⟨j, h1, h2⟩
    · exact .inl ⟨j, h2⟩
  refine ⟨⟨(t.nx.pre fun a q => .inl q).weak fun a q => ?_, ⟨by rw [bk_len]; rw [hl]; exact r1.len, fun j => ?_, fun i j a h1 h2 => ?_, fun a h => ?_, t.rel.zd⟩, fun j w d h => ?_⟩, fun h => ?_⟩
  · rcases q with q | q
    · exact (os a q).imp id .inl
    · exact .inr (.inr (hE a q))
  · rw [gt_bk hl]
    by_cases hj : j ∈ vs
    · rw [if_pos hj]
      have q := r1.sl j
      cases e : gt ρ1 j with
      | un => trivial
      | xc x => rw [e] at q; exact q
      | da w d =>
        rw [e] at q
        have key : ∀ a, gv σ j = some (.ref a) → w ≠ .s → Rw T Z1 H1 a d → Rw T Z H a d := fun a hv hw hr => by
          obtain ⟨_, _, h3⟩ := t.hid a ⟨j, hj, ⟨w, d, e, hw⟩, hv⟩
          cases hr with
          | lst h1 h2 => exact .lst (by rw [h3]; exact h1) (t.lt.rpL h2)
          | dK h1 h2 => exact .dK (by rw [h3]; exact h1) (t.lt.rpL h2)
          | dT h1 h2 => exact .dT (by rw [h3]; exact h1) (t.lt.rpL h2)
        cases w with
        | s =>
          obtain ⟨v, e1, q⟩ := q
          exact ⟨v, e1, t.lt.rp _ _ q⟩
        | o =>
          obtain ⟨a, e1, q⟩ := q
          exact ⟨a, e1, key a e1 (by decide) q⟩
        | l =>
          obtain ⟨a, e1, q⟩ := q
          exact ⟨a, e1, key a e1 (by decide) q⟩
    · rw [if_neg hj]
      have q := t.rel.sl j
      rw [gv_wipe vs σ j hj] at q
      exact q
  · rcases own i a h1 with ⟨p1, p2⟩ | ⟨p1, p2⟩
    · rcases own j a h2 with ⟨q1, q2⟩ | ⟨q1, q2⟩
      · exact r1.sep i j a p2 q2
      · exact absurd ⟨j, q2⟩ (t.hid a ⟨i, p1, p2⟩).1
    · rcases own j a h2 with ⟨q1, q2⟩ | ⟨q1, q2⟩
      · exact absurd ⟨i, p2⟩ (t.hid a ⟨j, q1, q2⟩).1
      · exact t.rel.sep i j a p2 q2
  · rcases os a h with q | q
    · exact t.rel.zs a q
    · exact (t.hid a q).2.1
  · by_cases hj : j ∈ vs
    · exact ⟨w, d, by rw [gt_bk hl, if_pos hj]; exact h, id, id⟩
    · obtain ⟨w', d', e, l1, l2⟩ := t.df j w d hj h
      exact ⟨w', d', by rw [gt_bk hl, if_neg hj]; exact e, l1, l2⟩
  · rcases os L h with q | ⟨v, _, q⟩
    · exact t.own.1 q
    · exact r1.osN t.new ⟨v, q⟩
/-! ### [elt for target in iter if test] -/
theorem nox_ok_inv {α : Type} {r : Rs α} {a : α} {ρ : List En} (h : nox r = .ok a ρ) : r = .ok a ρ := by
  cases r with
  | ok b ρ1 => exact h
  | ex x ρ1 => cases h
  | no => cases h
abbrev W0 : WX := fun _ _ _ _ => False
theorem sp_comp {vs is : List Nat} {fi : List En → Rs (List D)} {fb : D → List En → Rs Unit} {ft : List En → Rs Bool} {fe : List En → Rs Vl} (his : ∀ j, j ∈ is → j ∈ vs) {σ : L2.St} {H : Hp} {Q : VK}
    (h : Sp T W (fun ρ => (fi ρ).bd fun xs ρ1 => (nox (clp (fun x ρ2 => (fb x ρ2).bd fun _ ρ3 => (ft ρ3).bd fun c ρ4 =>
      if c then (fe ρ4).bd fun y ρ5 => (esc y ρ5).bd fun d ρ6 => .ok (some d.2) (wp vs ρ6) else .ok none (wp vs ρ4)) xs (wp vs ρ1))).bd fun ys ρ7 =>
      if szOk ys.length then .ok (.da true (.lst ys)) (bk vs ρ1 ρ7) else .no) σ H Q) :
    tLc (SpI T W fi) (SpG T W0 is fb) (SpT T W0 ft) (Sp T W0 fe) vs σ H Q := by
  obtain ⟨Z, ρ, r, h⟩ := h
  refine ⟨Z, ρ, r, Pst.bind h fun J H1 ds ρ1 Z1 _ g hsrc h1 => ?_⟩
  obtain ⟨G, Y, wk, hl⟩ := hsrc
  intro L hL
  have h1 := h1
  generalize hf : (fun (x : D) (ρ2 : List En) => (fb x ρ2).bd fun _ ρ3 => (ft ρ3).bd fun c ρ4 =>
      if c = true then (fe ρ4).bd fun y ρ5 => (esc y ρ5).bd fun d ρ6 => Rs.ok (some d.2) (wp vs ρ6) else .ok none (wp vs ρ4)) = f at h1
  cases e0 : nox (clp f ds (wp vs ρ1)) with
  | no => rw [e0] at h1; exact h1.elim
  | ex x ρ2 =>
    exfalso
    revert e0
    cases clp f ds (wp vs ρ1) <;> exact fun z => nomatch z
  | ok ys0 ρ70 =>
    rw [e0] at h1
    have e0 := nox_ok_inv e0
    obtain ⟨hz, h1⟩ := Pst.ifz (show Pst T W (VlR T) Ov _ Z1 H1 ρ1 σ (if szOk ys0.length = true then .ok (.da true (.lst ys0)) (bk vs ρ1 ρ70) else .no) Q from h1)
    refine lc_it wk (fun i H' => ∃ Z' ρ' acc ds' ys, Tn T vs Z1 H1 ρ1 σ L Z' H' ρ' ∧ H' L = some (.lst acc) ∧ RpL T Z' H' acc ds' ∧ clp f (ds.drop i) ρ' = .ok ys ρ70 ∧ ys0 = ds' ++ ys) ?_ ?_ ?_ ?_
    · exact ⟨Z1, wp vs ρ1, [], [], ys0, Tn.start g.rel hL, upd_same, .nil, e0, rfl⟩
    · rintro i H' _ ⟨Z', ρ', acc, ds', ys, t, _⟩
      exact (hl Z' H' t.lt).1
    · rintro i x H' H'' hlt ⟨Z', ρ', acc, ds', ys, t, ha, hr, hc, hy⟩ y
      have hd : ds[i]? = some ds[i] := List.getElem?_eq_getElem hlt
      obtain ⟨q1, q2⟩ := (hl Z' H' t.lt).2 i x H'' _ hd y
      have g1 := yld_go t.rel q1
      rw [List.drop_eq_getElem_cons hlt] at hc
      obtain ⟨ro, ρa, ea, hc⟩ := Rs.bd_eq_ok (show ((f ds[i] ρ').bd fun r ρ1 => (clp f (ds.drop (i + 1)) ρ1).bd fun ys ρ2 => .ok (match r with
        | none => ys
        | some y => y :: ys) ρ2) = .ok ys ρ70 from hc)
      obtain ⟨ys', ρb, eb, hc⟩ := Rs.bd_eq_ok hc
      cases hc
      rw [← hf] at ea
      obtain ⟨u, ρ3, e3, ea⟩ := Rs.bd_eq_ok (show ((fb ds[i] ρ').bd fun _ ρ3 => (ft ρ3).bd fun c ρ4 =>
        if c = true then (fe ρ4).bd fun y ρ5 => (esc y ρ5).bd fun d ρ6 => Rs.ok (some d.2) (wp vs ρ6) else .ok none (wp vs ρ4)) = .ok ro ρa from ea)
      obtain ⟨c, ρ4, e4, ea⟩ := Rs.bd_eq_ok ea
      refine ⟨Z', ρ', ds[i], g1.rel, q2, ?_⟩
      rw [e3]
      intro σ2 H2 Z2 g2
      have g2' := g1.t.trans g2
      have hL0 : H' L ≠ none := by rw [ha]; exact fun z => nomatch z
      refine ⟨(t.step g.rel hL0 g2' his).2.1, Z2, ρ3, g2.rel, ?_⟩
      rw [e4]
      intro b H3 Z3 g3 hb
      have hb : b = c := hb
      subst hb
      have g3' := g2'.trans g3.t
      cases b with
      | false =>
        rw [if_neg Bool.false_ne_true]
        have ea : Rs.ok none (wp vs ρ4) = .ok ro ρa := ea
        cases ea
        obtain ⟨t4, _, k4⟩ := t.step g.rel hL0 g3' his
        refine ⟨Z3, _, acc, ds', ys', t4, by rw [k4]; exact ha, (g3'.nx.lt t.rel.ok0).rpL hr, eb, hy⟩
      | true =>
        rw [if_pos rfl]
        have ea : ((fe ρ4).bd fun y ρ5 => (esc y ρ5).bd fun d ρ6 => Rs.ok (some d.2) (wp vs ρ6)) = .ok ro ρa := ea
        obtain ⟨yv, ρ5, e5, ea⟩ := Rs.bd_eq_ok ea
        obtain ⟨od, ρ6, e6, ea⟩ := Rs.bd_eq_ok ea
        cases ea
        refine ⟨Z3, ρ4, g3.rel, ?_⟩
        rw [e5]
        intro w H4 Z4 g4 hw
        obtain ⟨o, d⟩ := od
        obtain ⟨Z5, g5, hw5⟩ := escf_ok g4.rel hw e6
        have g5' := (g3'.trans g4.t).trans g5.t
        obtain ⟨t6, _, k6⟩ := t.step g.rel hL0 g5' his
        rw [ha] at k6
        have hsz : acc.length < sizeLine := by
          have := szOk_le hz
          have hlen := hr.length
          rw [hy, List.length_append] at this
          have e7 : (d :: ys').length = ys'.length + 1 := rfl
          have : ds'.length + (ys'.length + 1) ≤ sizeLine := this
          omega
        refine ⟨acc, k6, hsz, Z5, _, acc ++ [w], ds' ++ [d], ys', t6.app g.rel k6, upd_same, ?_, eb, by rw [hy]; simp⟩
        have l7 := Lt.mut (T := T) (o := .lst (acc ++ [w])) t6.own.2 k6
        exact (l7.rpL ((g5'.nx.lt t.rel.ok0).rpL hr)).app (.cons (l7.rp _ _ hw5) .nil)
    · rintro H' ⟨Z', ρ', acc, ds', ys, t, ha, hr, hc, hy⟩
      rw [List.drop_length] at hc
      have hc : Rs.ok [] ρ' = .ok ys ρ70 := hc
      cases hc
      rw [List.append_nil] at hy
      subst hy
      obtain ⟨g8, n8⟩ := t.done (P := fun a => OB J ds a ∨ N0 a) (E := Ov (.ref L) (.da true (.lst ys0))) g.rel fun a z => (V.ref.inj z.2).symm
      exact h1 (.ref L) H' Z' g8 ⟨L, rfl, .lst ha hr, t.own.2, n8⟩
end
end G
set_option maxHeartbeats 4000000
/-! F18: stores, statements. -/
namespace G
open PySem L2 PySem.Spec PyProof.Rows
section
variable {T : Tb} {W : WX} {Z Z' Z'' : Addr → Prop} {H H' H'' : Hp} {ρ ρ' ρ'' : List En} {σ σ' σ'' : L2.St} {P : Addr → Prop} {x y : V} {d e : D} {Q : VK}
theorem gv_set {i j : Nat} {v : V} (hl : i < σ.length) : gv (σ.set i (some v)) j = if i = j then some v else gv σ j := by
  unfold gv
  by_cases e : i = j
  · subst e
    rw [List.getElem?_set_self hl, if_pos rfl]
    rfl
  · rw [List.getElem?_set_ne e, if_neg e]
theorem stS_ok {i : Nat} {o : Bool} (h : stS i o d ρ = .ok () ρ') : ρ' = ρ.set i (.da (ow o) d) ∧ i < ρ.length ∧ ∀ d', gt ρ i ≠ .da .l d' := by
  have e : stS i o d ρ = match gt ρ i with
    | .da .l _ => .no
    | _ => if i < ρ.length then .ok () (ρ.set i (.da (ow o) d)) else .no := rfl
  rw [e] at h
  have key : (if i < ρ.length then Rs.ok () (ρ.set i (.da (ow o) d)) else .no) = .ok () ρ' → ρ' = ρ.set i (.da (ow o) d) ∧ i < ρ.length := fun h => by
    by_cases hl : i < ρ.length
    · rw [if_pos hl] at h
      cases h
      exact ⟨rfl, hl⟩
    · rw [if_neg hl] at h
      cases h
  cases q : gt ρ i with
  | un => rw [q] at h; exact ⟨(key h).1, (key h).2, fun _ z => nomatch z⟩
  | xc x => rw [q] at h; exact ⟨(key h).1, (key h).2, fun _ z => nomatch z⟩
  | da w d' =>
    rw [q] at h
    cases w with
    | l => cases h
    | s => exact ⟨(key h).1, (key h).2, fun _ z => nomatch z⟩
    | o => exact ⟨(key h).1, (key h).2, fun _ z => nomatch z⟩
theorem stS_noex {i : Nat} {o : Bool} {xx : Xc} : stS i o d ρ ≠ .ex xx ρ' := fun h => by
  have e : stS i o d ρ = match gt ρ i with
    | .da .l _ => .no
    | _ => if i < ρ.length then .ok () (ρ.set i (.da (ow o) d)) else .no := rfl
  rw [e] at h
  by_cases hl : i < ρ.length
  · rw [if_pos hl] at h
    cases q : gt ρ i with
    | un => rw [q] at h; cases h
    | xc x => rw [q] at h; cases h
    | da w d' => rw [q] at h; cases w <;> cases h
  · rw [if_neg hl] at h
    cases q : gt ρ i with
    | un => rw [q] at h; cases h
    | xc x => rw [q] at h; cases h
    | da w d' => rw [q] at h; cases w <;> cases h
/-- a slot is stored -/
theorem store_go {i : Nat} {o : Bool} {v : V} (r : Rel T Z ρ σ H) (hv : VlR T Z H σ ρ v (.da o d)) (h : stS i o d ρ = .ok () ρ') : GoT T [i] (Ov v (.da o d)) Z H ρ σ Z H ρ' (σ.set i (some v)) N0 := by
  obtain ⟨rfl, hl, nl⟩ := stS_ok h
  have hl' : i < σ.length := by rw [← r.len]; exact hl
  have own : ∀ j a, Own (ρ.set i (.da (ow o) d)) (σ.set i (some v)) j a → (j ≠ i ∧ Own ρ σ j a) ∨ (j = i ∧ Ov v (.da o d) a) := fun j a ⟨⟨w, d', e, hw⟩, hv'⟩ => by
    rw [gt_set] at e
    rw [gv_set hl'] at hv'
    by_cases hj : i = j
    · subst hj
      rw [if_pos ⟨rfl, hl⟩] at e
      rw [if_pos rfl] at hv'
      cases hv'
      refine .inr ⟨rfl, ?_⟩
      cases o with
      | true => exact ⟨⟨d, rfl⟩, rfl⟩
      | false =>
        have e : En.da .s d = .da w d' := e
        cases e
        exact absurd rfl hw
    · rw [if_neg fun z => hj z.1] at e
      rw [if_neg hj] at hv'
      exact .inl ⟨fun z => hj z.symm, ⟨w, d', e, hw⟩, hv'⟩
  refine ⟨⟨⟨fun _ _ h _ => h, fun _ h => h, fun _ h => h, fun _ h => .inl h, fun a h => ?_⟩, ⟨by rw [List.length_set, List.length_set]; exact r.len, fun j => ?_, fun j k a h1 h2 => ?_, fun a ⟨j, h1⟩ => ?_, r.zd⟩, fun j d' h1 => ?_⟩, List.length_set, fun j hj => ?_, fun j w d' hj h1 => ?_⟩
  · rcases h with ⟨j, h⟩ | h
    · rcases own j a h with ⟨_, h⟩ | ⟨_, h⟩
      · exact .inl (.inl ⟨j, h⟩)
      · exact .inl (.inr h)
    · exact h.elim
  · rw [gt_set, gv_set hl']
    by_cases hj : i = j
    · subst hj
      rw [if_pos rfl, if_pos ⟨rfl, hl⟩]
      cases o with
      | true =>
        obtain ⟨a, rfl, hw, _⟩ := hv
        exact ⟨a, rfl, hw⟩
      | false => exact ⟨v, rfl, hv⟩
    · rw [if_neg hj, if_neg fun z => hj z.1]
      exact r.sl j
  · rcases own j a h1 with ⟨p1, p2⟩ | ⟨p1, p2⟩
    · rcases own k a h2 with ⟨q1, q2⟩ | ⟨q1, q2⟩
      · exact r.sep j k a p2 q2
      · exact absurd ⟨j, p2⟩ (hv.nos a q2)
    · rcases own k a h2 with ⟨q1, q2⟩ | ⟨q1, q2⟩
      · exact absurd ⟨k, q2⟩ (hv.nos a p2)
      · rw [p1, q1]
  · rcases own j a h1 with ⟨p1, p2⟩ | ⟨p1, p2⟩
    · exact r.zs a ⟨j, p2⟩
    · exact (hv.okV a p2).1
  · have hj : i ≠ j := fun e => by
      subst e
      exact nl d' h1
    exact ⟨d', by rw [gt_set, if_neg fun z => hj z.1]; exact h1, by rw [gv_set hl', if_neg hj]⟩
  · have hj : i ≠ j := fun e => hj (by rw [e]; exact List.mem_cons_self)
    exact List.getElem?_set_ne hj
  · have hj : i ≠ j := fun e => hj (by rw [e]; exact List.mem_cons_self)
    exact ⟨w, d', by rw [gt_set, if_neg fun z => hj z.1]; exact h1, id, id⟩
theorem sg_v {i : Nat} {v : V} {σ : L2.St} {H : Hp} {Q : L2.St → Hp → Prop} (h : SpG T W [i] (fun d ρ => stS i false d ρ) v σ H Q) : gName i v σ H Q := by
  obtain ⟨Z, ρ, d, r, hv, h⟩ := h
  have h : PstU T W [i] N0 Z H ρ σ (stS i false d ρ) Q := h
  cases e : stS i false d ρ with
  | no => rw [e] at h; exact h.elim
  | ex x ρ1 => exact (stS_noex e).elim
  | ok u ρ1 =>
    rw [e] at h
    exact h (σ.set i (some v)) H Z ((store_go r (o := false) (v := v) hv e).pre fun a z => by
      obtain ⟨⟨_, e⟩, _⟩ := z
      cases e)
/-- targets in a row -/
theorem sgs_nil {vs : List V} {σ : L2.St} {H : Hp} {Q : L2.St → Hp → Prop} {is : List Nat} {f : List D → List En → Rs Unit} (hf : ∀ d ds ρ, f (d :: ds) ρ = .no) (h0 : ∀ ρ, f [] ρ = .ok () ρ) (h : SpGs T W is f vs σ H Q) : gNil vs σ H Q := by
  obtain ⟨Z, ρ, ds, r, hv, h⟩ := h
  cases hv with
  | nil =>
    rw [h0] at h
    exact ⟨rfl, h σ H Z (Go.refl r).t⟩
  | cons _ _ => rw [hf] at h; exact h.elim
theorem sgs_cons {vs : List V} {σ : L2.St} {H : Hp} {Q : L2.St → Hp → Prop} {is js ks : List Nat} {f : List D → List En → Rs Unit} {g1 : D → List En → Rs Unit} {g2 : List D → List En → Rs Unit}
    (h0 : ∀ ρ, f [] ρ = .no) (hf : ∀ d ds ρ, f (d :: ds) ρ = (g1 d ρ).bd fun _ ρ1 => g2 ds ρ1) (hj : ∀ j, j ∈ js → j ∈ is) (hk : ∀ j, j ∈ ks → j ∈ is) (h : SpGs T W is f vs σ H Q) : gCons (SpG T W js g1) (SpGs T W ks g2) vs σ H Q := by
  obtain ⟨Z, ρ, ds, r, hv, h⟩ := h
  cases hv with
  | nil => rw [h0] at h; exact h.elim
  | @cons v vs d ds h1 h2 =>
    rw [hf] at h
    refine ⟨v, vs, rfl, Z, ρ, d, r, h1, PstU.bindU h hj fun σ1 H1 ρ1 Z1 _ g h3 => ?_⟩
    refine ⟨Z1, ρ1, ds, g.rel, (g.toGoS.lt' r).rpL h2, ?_⟩
    revert h3
    cases g2 ds ρ1 with
    | no => exact id
    | ex x ρ2 => exact id
    | ok u ρ2 => exact fun h3 σ2 H2 Z2 g2 => h3 σ2 H2 Z2 (g2.more hk)
/-- a, b = t -/
theorem sg_t {n : Nat} {v : V} {σ : L2.St} {H : Hp} {Q : L2.St → Hp → Prop} {is : List Nat} {f : List D → List En → Rs Unit} {g : D → List En → Rs Unit} (h0 : ∀ d ρ, (∀ xs, d ≠ .tup xs) → g d ρ = .no) (hg : ∀ xs ρ, g (.tup xs) ρ = if xs.length = n then f xs ρ else .no)
    (h : SpG T W is g v σ H Q) : gTup T.K n (SpGs T W is f) v σ H Q := by
  obtain ⟨Z, ρ, d, r, hv, h⟩ := h
  cases d with
  | tup xs =>
    cases hv with
    | tup h1 h2 =>
      rw [hg] at h
      by_cases hn : xs.length = n
      · rw [if_pos hn] at h
        exact ⟨_, _, rfl, .of h1, by rw [h2.length]; exact hn, Z, ρ, xs, r, h2, h⟩
      · rw [if_neg hn] at h
        exact h.elim
  | _ => rw [h0 _ _ (fun xs z => by cases z)] at h; exact h.elim
/-! ### d[k] = v, l[i] = v -/
def rSet2 : TSet := fun o i v H Q => rSetD o i v H Q ∨ rSetL o i v H Q
theorem set_2 {X : Cx} (hu : X.A.units + 1 < cLine) : PSet X rSet2 := by
  intro pins s σ H o i v ov iv u Q I ro ri rv h
  rcases h with h | h
  · exact set_dict hu pins s σ H o i v ov iv u Q I ro ri rv h
  · exact set_list pins s σ H o i v ov iv u Q I ro ri rv h
section
variable {κ : Type} [DecidableEq κ] {g : κ → D}
theorem put_ok (hg : ∀ a b, D.eqb (g a) (g b) = decide (a = b)) (k : κ) {kvs : List (κ × V)} {vs : List D} {v : V} {d : D} (h : RpL T Z H (kvs.map (·.2)) vs) (hv : Rp T Z H v d) :
    (putD (kvs.map fun kv => g kv.1) vs (g k) d).1 = (putK kvs k v).map (fun kv => g kv.1) ∧ RpL T Z H ((putK kvs k v).map (·.2)) (putD (kvs.map fun kv => g kv.1) vs (g k) d).2 := by
  have hh := has_val hg k kvs
  rw [← valV_any] at hh
  unfold putD putK
  rw [hh]
  cases e : kvs.any fun kv => decide (kv.1 = k) with
  | false =>
    rw [if_neg Bool.false_ne_true, if_neg Bool.false_ne_true, List.map_append, List.map_append]
    exact ⟨rfl, h.app (.cons hv .nil)⟩
  | true =>
    rw [if_pos rfl, if_pos rfl]
    refine ⟨?_, ?_⟩
    · show kvs.map (fun kv => g kv.1) = (kvs.map fun kv => if kv.1 = k then (kv.1, v) else kv).map fun kv => g kv.1
      rw [List.map_map]
      refine List.map_congr_left fun kv _ => ?_
      show g kv.1 = g (if kv.1 = k then (kv.1, v) else kv).1
      split <;> rfl
    · show RpL T Z H ((kvs.map fun kv => if kv.1 = k then (kv.1, v) else kv).map (·.2)) (List.zipWith (fun k' v' => if D.eqb k' (g k) then d else v') (kvs.map fun kv => g kv.1) vs)
      clear hh e
      induction kvs generalizing vs with
      | nil =>
        cases h
        exact .nil
      | cons kv r ih =>
        cases h with
        | cons h1 h2 =>
          rename_i d0 _
          refine .cons (show Rp T Z H (if kv.1 = k then (kv.1, v) else kv).2 (if D.eqb (g kv.1) (g k) = true then d else d0) from ?_) (ih h2)
          rw [hg]
          by_cases q : kv.1 = k
          · rw [if_pos q, decide_eq_true q, if_pos rfl]
            exact hv
          · rw [if_neg q, decide_eq_false q, if_neg Bool.false_ne_true]
            exact h1
end
theorem isO_own {i : Nat} (h : isO i ρ = true) : ∃ w d, gt ρ i = .da w d ∧ w ≠ .s := by
  unfold isO at h
  split at h
  · rename_i d e
    exact ⟨.o, d, e, by decide⟩
  · rename_i d e
    exact ⟨.l, d, e, by decide⟩
  · cases h
/-- the store at a slot's object -/
theorem setI_ok {i : Nat} {k v : V} {kd vd : D} {σ : L2.St} {a : Addr} {Q : Hp → Prop} (r : Rel T Z ρ σ H) (ha : gv σ i = some (.ref a)) (hk : Rp T Z H k kd) (hv : Rp T Z H v vd)
    {R : Rs Unit → Prop} (hno : ¬ R .no) (h : R (setI i kd vd ρ)) (hQ : ∀ ρ' H', R (.ok () ρ') → Go T N0 Z H ρ σ Z H' ρ' N0 → Q H') : rSet2 (.ref a) k v H Q := by
  have key : ∀ (w : Ow) (d : D), gt ρ i = .da w d → w ≠ .s → rSet2 (.ref a) k v H Q := fun w d hg hw => by
    have hown : Os ρ σ a := ⟨i, ⟨w, d, hg, hw⟩, ha⟩
    have q := r.sl i
    rw [hg] at q
    obtain ⟨b, e, hrw⟩ := q.own hw
    rw [ha] at e
    cases e
    cases d with
    | dct t ks vs =>
      have e1 : setI i kd vd ρ = if keyFits t kd && decide (ks.length < sizeLine) then .ok () (ρ.set i (.da w (.dct t (putD ks vs kd vd).1 (putD ks vs kd vd).2))) else .no := by
        unfold setI
        generalize gt ρ i = q at hg
        subst hg
        cases w with
        | s => exact absurd rfl hw
        | o => rfl
        | l => rfl
      rw [e1] at h
      cases c : keyFits t kd && decide (ks.length < sizeLine) with
      | false => rw [c] at h; exact (hno h).elim
      | true =>
        rw [c] at h
        have h : R (.ok () (ρ.set i (.da w (.dct t (putD ks vs kd vd).1 (putD ks vs kd vd).2)))) := h
        rw [Bool.and_eq_true] at c
        have hsz := of_decide_eq_true c.2
        cases hrw with
        | dK h1 h2 =>
          obtain ⟨k', rfl, rfl⟩ := Vw.key (.inl hk) c.1
          obtain ⟨p1, p2⟩ := put_ok (g := kD) kD_eqb k' h2 hv
          rw [p1] at h
          refine .inl ⟨a, _, rfl, DPut.k h1 (by rw [List.length_map] at hsz; exact hsz), hQ _ _ h (mut_ok r hg hw ha fun _ _ => ?_)⟩
          exact .dK upd_same (rpL_mut r hown p2)
        | dT h1 h2 =>
          obtain ⟨k', b, rfl, rfl, hb⟩ := Vw.keyT (.inl hk) c.1
          obtain ⟨p1, p2⟩ := put_ok (g := kT) kT_eqb k' h2 hv
          rw [p1] at h
          refine .inl ⟨a, _, rfl, DPut.t h1 hb (by rw [List.length_map] at hsz; exact hsz), hQ _ _ h (mut_ok r hg hw ha fun _ _ => ?_)⟩
          exact .dT upd_same (rpL_mut r hown p2)
    | lst xs =>
      cases hrw with
      | lst h1 h2 =>
        have e1 : setI i kd vd ρ = match (generalizing := false) kd with
          | .int n => (match ixN xs.length n with
            | some j => .ok () (ρ.set i (.da w (.lst (xs.set j vd))))
            | none => .no)
          | _ => .no := by
          unfold setI
          generalize gt ρ i = q at hg
          subst hg
          cases w with
          | s => exact absurd rfl hw
          | o => rfl
          | l => rfl
        rw [e1] at h
        cases kd with
        | int n =>
          cases hk
          have h : R (match (generalizing := false) ixN xs.length n with
            | some j => .ok () (ρ.set i (.da w (.lst (xs.set j vd))))
            | none => .no) := h
          cases c : ixN xs.length n with
          | none => rw [c] at h; exact (hno h).elim
          | some j =>
            rw [c] at h
            exact .inr ⟨a, _, n, j, rfl, rfl, h1, by rw [h2.length]; exact c, hQ _ _ h (mut_list r hg hw ha (h2.set j hv))⟩
        | _ => exact (hno h).elim
    | _ => cases hrw
  cases hg : gt ρ i with
  | un =>
    have e1 : setI i kd vd ρ = .no := by unfold setI; rw [hg]
    rw [e1] at h
    exact (hno h).elim
  | xc x =>
    have e1 : setI i kd vd ρ = .no := by unfold setI; rw [hg]
    rw [e1] at h
    exact (hno h).elim
  | da w d =>
    by_cases hw : w = .s
    · subst hw
      have e1 : setI i kd vd ρ = .no := by unfold setI; rw [hg]
      rw [e1] at h
      exact (hno h).elim
    · exact key w d hg hw
theorem sg_ix {i : Nat} {v : V} {fe : List En → Rs Vl} {is : List Nat} {σ : L2.St} {H : Hp} {Q : L2.St → Hp → Prop} (h : SpG T W is (fun d ρ => if isO i ρ then (fe ρ).bd fun k ρ1 => (esc k ρ1).bd fun k ρ2 => setI i k.2 d ρ2 else .no) v σ H Q) : gSub (tVar i) (Sp T W fe) rSet2 v σ H Q := by
  obtain ⟨Z, ρ, d, r, hv, h⟩ := h
  cases c : isO i ρ with
  | false =>
    have h : PstU T W is N0 Z H ρ σ (if isO i ρ = true then _ else .no) Q := h
    rw [c] at h
    exact h.elim
  | true =>
    have h : PstU T W is N0 Z H ρ σ (if isO i ρ = true then (fe ρ).bd fun k ρ1 => (esc k ρ1).bd fun k ρ2 => setI i k.2 d ρ2 else .no) Q := h
    rw [c] at h
    obtain ⟨w, d0, hg, hw⟩ := isO_own c
    have q := r.sl i
    rw [hg] at q
    obtain ⟨a, ha, _⟩ := q.own hw
    refine ⟨.ref a, gv_some ha, Z, ρ, r, PstU.bind (show PstU T W is N0 Z H ρ σ ((fe ρ).bd fun k ρ1 => (esc k ρ1).bd fun k ρ2 => setI i k.2 d ρ2) Q from h) fun kv H1 kx ρ1 Z1 _ g hk h1 => ?_⟩
    cases e : esc kx ρ1 with
    | no => rw [e] at h1; exact h1.elim
    | ex y ρ2 => exact (esc_noex e).elim
    | ok p ρ2 =>
      obtain ⟨o, kd⟩ := p
      rw [e] at h1
      obtain ⟨Z2, g2, q2⟩ := escf_ok g.rel hk e
      have l := (g.lt' r).trans (g2.nx.lt (g.rel.okO.or hk.okV))
      refine setI_ok (R := fun res => PstU T W is (fun a => Ov kv kx a ∨ N0 a) Z1 H1 ρ1 σ res Q) g2.rel ha q2 (l.rp _ _ hv) id h1 fun ρ' H' hr g3 => ?_
      exact hr σ H' Z2 ((g2.pre fun a z => .inl z).trans g3).t
end
end G
set_option maxHeartbeats 4000000
/-! F19: statements. -/
namespace G
open PySem L2 PySem.Spec PyProof.Rows
section
variable {T : Tb} {W : WX} {Z Z' Z'' : Addr → Prop} {H H' H'' : Hp} {ρ ρ' ρ'' : List En} {σ σ' σ'' : L2.St} {P : Addr → Prop} {x y : V} {d e : D} {Q : VK} {Dn : Ends}
variable {fe : List En → Rs Vl} {fs : List En → Rs (List Vl)} {ft : List En → Rs Bool}
theorem PstS.nx' {Q' : L2.St → Hp → Prop} (h : PstS T W P Z H ρ σ (.ok .nx ρ) Dn) (g : GoS T P Z H ρ σ Z' H' ρ σ' N0) : Dn.nx σ' H' := h σ' H' Z' g
/-- name = e -/
theorem ss_set {i : Nat} (h : SpS T W (fun ρ => (fe ρ).bd fun v ρ1 => (esc v ρ1).bd fun d ρ2 => (stS i d.1 d.2 ρ2).bd fun _ ρ3 => .ok .nx ρ3) Dn σ H) : tAsg (Sp T W fe) (gName i) Dn σ H := by
  obtain ⟨Z, ρ, r, h⟩ := h
  refine ⟨Z, ρ, r, PstS.bind h fun v H1 x ρ1 Z1 _ g hv h1 => ?_⟩
  cases e : esc x ρ1 with
  | no => rw [e] at h1; exact h1.elim
  | ex y ρ2 => exact (esc_noex e).elim
  | ok p ρ2 =>
    obtain ⟨o, d⟩ := p
    rw [e] at h1
    obtain ⟨Z2, g2, q2⟩ := esc_ok g.rel hv e
    have h2 := PstS.step h1 (g2.s.pre fun a z => .inl z)
    cases e2 : stS i o d ρ2 with
    | no =>
      have h2 : PstS T W _ Z2 H1 ρ2 σ ((stS i o d ρ2).bd fun _ ρ3 => .ok .nx ρ3) Dn := h2
      rw [e2] at h2; exact h2.elim
    | ex y ρ3 => exact (stS_noex e2).elim
    | ok u ρ3 =>
      have h2 : PstS T W _ Z2 H1 ρ2 σ ((stS i o d ρ2).bd fun _ ρ3 => .ok .nx ρ3) Dn := h2
      rw [e2] at h2
      exact h2 _ _ Z2 (store_go g2.rel q2 e2).toGoS
/-- target = e -/
theorem ss_asg {is : List Nat} {fb : D → List En → Rs Unit} (h : SpS T W (fun ρ => (fe ρ).bd fun v ρ1 => (esc v ρ1).bd fun d ρ2 => (fb d.2 ρ2).bd fun _ ρ3 => .ok .nx ρ3) Dn σ H) : tAsg (Sp T W fe) (SpG T W is fb) Dn σ H := by
  obtain ⟨Z, ρ, r, h⟩ := h
  refine ⟨Z, ρ, r, PstS.bind h fun v H1 x ρ1 Z1 _ g hv h1 => ?_⟩
  cases e : esc x ρ1 with
  | no => rw [e] at h1; exact h1.elim
  | ex y ρ2 => exact (esc_noex e).elim
  | ok p ρ2 =>
    obtain ⟨o, d⟩ := p
    rw [e] at h1
    obtain ⟨Z2, g2, q2⟩ := escf_ok g.rel hv e
    have h2 := PstS.step h1 (g2.s.pre fun a z => .inl z)
    exact ⟨Z2, ρ2, d, g2.rel, q2, PstS.bindU h2 fun σ1 H2 ρ3 Z3 _ g3 h3 => h3 σ1 H2 Z3 (GoS.refl g3.rel)⟩
theorem ss_drop (h : SpS T W (fun ρ => (fe ρ).bd fun _ ρ1 => .ok .nx ρ1) Dn σ H) : tDrop (Sp T W fe) Dn σ H := by
  obtain ⟨Z, ρ, r, h⟩ := h
  refine ⟨Z, ρ, r, PstS.bind h fun v H1 x ρ1 Z1 _ g hv h1 => ?_⟩
  exact h1 σ H1 Z1 ((GoS.refl g.rel).weak fun a z => z.elim)
theorem ss_ret (h : SpS T W (fun ρ => (fe ρ).bd fun v ρ1 => retV v ρ1) Dn σ H) : tRet (Sp T W fe) Dn σ H := by
  obtain ⟨Z, ρ, r, h⟩ := h
  refine ⟨Z, ρ, r, PstS.bind h fun v H1 x ρ1 Z1 _ g hv h1 => ?_⟩
  cases x with
  | da o d => exact h1 v σ H1 Z1 ((GoS.refl g.rel).weak fun a z => .inl z) hv
  | vw i =>
    obtain ⟨e1, w, d, e2⟩ := hv
    have e3 : retV (.vw i) ρ1 = match gt ρ1 i with
      | .da .o d => .ok (.rt true d) (ρ1.set i .un)
      | .da .s d => .ok (.rt false d) ρ1
      | _ => .no := rfl
    rw [e3, e2] at h1
    have q := g.rel.sl i
    rw [e1, e2] at q
    cases w with
    | l => exact h1.elim
    | s =>
      obtain ⟨v', e, q⟩ := q
      cases e
      exact h1 v σ H1 Z1 ((GoS.refl g.rel).weak fun a z => by obtain ⟨⟨_, e⟩, _⟩ := z; cases e) q
    | o =>
      obtain ⟨a, e, q⟩ := q
      cases e
      have hown : Own ρ1 σ i a := ⟨⟨.o, d, e2, by decide⟩, e1⟩
      have back : ∀ j b, Own (ρ1.set i .un) σ j b → j ≠ i ∧ Own ρ1 σ j b := fun j b ⟨⟨w, d', e, hw⟩, hv'⟩ => by
        rw [gt_set] at e
        by_cases q : i = j ∧ i < ρ1.length
        · rw [if_pos q] at e
          cases e
        · rw [if_neg q] at e
          exact ⟨fun z => q ⟨z.symm, gt_lt e2⟩, ⟨w, d', e, hw⟩, hv'⟩
      refine h1 (.ref a) σ H1 Z1 ⟨⟨fun _ _ h _ => h, fun _ h => h, fun _ h => h, fun _ h => .inl h, fun b h => ?_⟩, ⟨by rw [List.length_set]; exact g.rel.len, fun j => ?_, fun j k b h1 h2 => g.rel.sep j k b (back j b h1).2 (back k b h2).2, fun b ⟨j, h⟩ => g.rel.zs b ⟨j, (back j b h).2⟩, g.rel.zd⟩, fun j d' hj => ?_⟩
        ⟨a, rfl, q, g.rel.zs a ⟨i, hown⟩, fun ⟨j, h⟩ => (back j a h).1 (g.rel.sep j i a (back j a h).2 hown)⟩
      · rcases h with ⟨j, h⟩ | h
        · exact .inl (.inl ⟨j, (back j b h).2⟩)
        · have e := V.ref.inj h.2
          exact .inl (.inl ⟨i, by rw [← e]; exact hown⟩)
      · rw [gt_set]
        by_cases q : i = j ∧ i < ρ1.length
        · rw [if_pos q]; trivial
        · rw [if_neg q]; exact g.rel.sl j
      · have : i ≠ j := fun e => by
          subst e
          rw [e2] at hj
          cases hj
        exact ⟨d', by rw [gt_set, if_neg fun z => this z.1]; exact hj, rfl⟩
theorem ss_retN (h : SpS T W (fun ρ => .ok (.rt false .non) ρ) Dn σ H) : tRetN Dn σ H := by
  obtain ⟨Z, ρ, r, h⟩ := h
  exact h .non σ H Z ((GoS.refl r).weak fun a z => by obtain ⟨⟨_, e⟩, _⟩ := z; cases e) .non
theorem ss_if {fa fb : List En → Rs Fl} (h : SpS T W (fun ρ => (ft ρ).bd fun c ρ1 => if c then fa ρ1 else fb ρ1) Dn σ H) : tIfS (SpT T W ft) (SpS T W fa) (SpS T W fb) Dn σ H := by
  obtain ⟨Z, ρ, r, h⟩ := h
  refine ⟨Z, ρ, r, PstS.bind (R := RB) (O := OB) h fun v H1 x ρ1 Z1 _ g hv h1 => ?_⟩
  have hv : v = x := hv
  subst hv
  have h1 := h1.n0 fun a z => z.elim id id
  cases v with
  | true => exact ⟨Z1, ρ1, g.rel, h1⟩
  | false => exact ⟨Z1, ρ1, g.rel, h1⟩
theorem ss_nil (h : SpS T W (fun ρ => .ok .nx ρ) Dn σ H) : tNext Dn σ H := by
  obtain ⟨Z, ρ, r, h⟩ := h
  exact h σ H Z (GoS.refl r)
theorem ss_brk (h : SpS T W (fun ρ => .ok .bk ρ) Dn σ H) : tBreak Dn σ H := by
  obtain ⟨Z, ρ, r, h⟩ := h
  exact h σ H Z (GoS.refl r)
theorem ss_cnt (h : SpS T W (fun ρ => .ok .ct ρ) Dn σ H) : tCont Dn σ H := by
  obtain ⟨Z, ρ, r, h⟩ := h
  exact h σ H Z (GoS.refl r)
theorem ss_seq {fa fb : List En → Rs Fl} (h : SpS T W (fun ρ => (fa ρ).bd fun r ρ1 => match r with
    | .nx => fb ρ1
    | .rt o d => .ok (.rt o d) ρ1
    | .bk => .ok .bk ρ1
    | .ct => .ok .ct ρ1) Dn σ H) : tSeq (SpS T W fa) (SpS T W fb) Dn σ H := by
  obtain ⟨Z, ρ, r, h⟩ := h
  refine ⟨Z, ρ, r, ?_⟩
  have q := PstS.seq h
  revert q
  cases fa ρ with
  | no => exact id
  | ex x ρ1 => exact id
  | ok f ρ1 =>
    cases f with
    | nx =>
      intro q σ1 H1 Z1 g
      obtain ⟨Z2, ρ2, _, g2, h2⟩ := q σ1 H1 Z1 g
      exact ⟨Z2, ρ2, g2.rel, h2⟩
    | bk => exact id
    | ct => exact id
    | rt o d => exact id
/-- l.append(e) -/
theorem ss_app {i : Nat} (h : SpS T W (fun ρ => if isL i ρ then (fe ρ).bd fun v ρ1 => (esc v ρ1).bd fun d ρ2 => (appS i [d.2] ρ2).bd fun _ ρ3 => .ok .nx ρ3 else .no) Dn σ H) : tDrop (tBM T.K "list" rAppend (tVar i) (tCons (Sp T W fe) tNil)) Dn σ H := by
  obtain ⟨Z, ρ, r, h⟩ := h
  cases c : isL i ρ with
  | false =>
    have h : PstS T W N0 Z H ρ σ (if isL i ρ = true then _ else .no) Dn := h
    rw [c] at h; exact h.elim
  | true =>
    have h : PstS T W N0 Z H ρ σ (if isL i ρ = true then (fe ρ).bd fun v ρ1 => (esc v ρ1).bd fun d ρ2 => (appS i [d.2] ρ2).bd fun _ ρ3 => .ok .nx ρ3 else .no) Dn := h
    rw [c] at h
    obtain ⟨a, e1, hty⟩ := own_ty r c
    refine ⟨.ref a, gv_some e1, hty, Z, ρ, r, PstS.bind (show PstS T W N0 Z H ρ σ ((fe ρ).bd fun v ρ1 => (esc v ρ1).bd fun d ρ2 => (appS i [d.2] ρ2).bd fun _ ρ3 => .ok .nx ρ3) Dn from h) fun v H1 x ρ1 Z1 _ g hv h1 => ?_⟩
    cases e : esc x ρ1 with
    | no => rw [e] at h1; exact h1.elim
    | ex y ρ2 => exact (esc_noex e).elim
    | ok p ρ2 =>
      obtain ⟨o, d⟩ := p
      rw [e] at h1
      obtain ⟨Z2, g2, q2⟩ := escf_ok g.rel hv e
      have h2 := PstS.step h1 (g2.s.pre fun a z => .inl z)
      have h2 : PstS T W N0 Z2 H1 ρ2 σ ((appS i [d] ρ2).bd fun _ ρ3 => .ok .nx ρ3) Dn := h2
      have key : ∀ (w : Ow) (xs : List D), gt ρ2 i = .da w (.lst xs) → w ≠ .s → rAppend (.ref a) [v] H1 fun _ H3 => Dn.nx σ H3 := fun w xs hg hw => by
        have ea : appS i [d] ρ2 = if szOk (xs.length + 1) then .ok () (ρ2.set i (.da w (.lst (xs ++ [d])))) else .no := by
          unfold appS
          generalize gt ρ2 i = q at hg
          subst hg
          cases w with
          | s => exact absurd rfl hw
          | o => rfl
          | l => rfl
        rw [ea] at h2
        obtain ⟨a', vs, e1', h1', h2'⟩ := own_list g2.rel hg hw
        rw [e1] at e1'
        cases e1'
        cases cz : szOk (xs.length + 1) with
        | false => rw [cz] at h2; exact h2.elim
        | true =>
          rw [cz] at h2
          have hz := szOk_le cz
          exact ⟨a, vs, v, rfl, rfl, h1', by rw [h2'.length]; omega, h2 σ _ Z2 (mut_list g2.rel hg hw e1 (h2'.app (.cons q2 .nil))).s⟩
      have e0 : ∀ en, gt ρ2 i = en → (∀ w xs, en ≠ .da w (.lst xs)) ∨ (∃ xs, en = .da .s (.lst xs)) → appS i [d] ρ2 = .no := fun en hg hn => by
        unfold appS
        generalize gt ρ2 i = q at hg
        subst hg
        rcases hn with hn | ⟨xs, rfl⟩
        · split
          · rename_i e; exact absurd rfl (hn _ _)
          · rename_i e; exact absurd rfl (hn _ _)
          · rfl
        · rfl
      cases hg : gt ρ2 i with
      | un => rw [e0 _ hg (.inl fun _ _ z => nomatch z)] at h2; exact h2.elim
      | xc x => rw [e0 _ hg (.inl fun _ _ z => nomatch z)] at h2; exact h2.elim
      | da w d' =>
        cases d' with
        | lst xs =>
          by_cases hw : w = .s
          · subst hw
            rw [e0 _ hg (.inr ⟨xs, rfl⟩)] at h2; exact h2.elim
          · exact key w xs hg hw
        | _ => rw [e0 _ hg (.inl fun _ _ z => nomatch z)] at h2; exact h2.elim
end
end G
set_option maxHeartbeats 4000000
/-! F20: a, b = x, y; raise; try. -/
namespace G
open PySem L2 PySem.Spec PyProof.Rows
section
variable {T : Tb} {W : WX} {Z Z' Z'' : Addr → Prop} {H H' H'' : Hp} {ρ ρ' ρ'' : List En} {σ σ' σ'' : L2.St} {P : Addr → Prop} {x y : V} {d e : D} {Q : VK} {Dn : Ends}
variable {fe : List En → Rs Vl} {fs : List En → Rs (List Vl)} {ft : List En → Rs Bool}
def das (ds : List (Bool × D)) : List Vl := ds.map fun p => Vl.da p.1 p.2
theorem esc_ov {v : V} {xv : Vl} {o : Bool} {a : Addr} (h : esc xv ρ = .ok (o, d) ρ') (q : Ov v (.da o d) a) : Ov v xv a := by
  cases xv with
  | da o' d' => cases h; exact q
  | vw i =>
    obtain ⟨⟨d', e⟩, _⟩ := q
    have h : (match gt ρ i with
      | .da .o d => Rs.ok (false, d) (ρ.set i (.da .s d))
      | .da .s d => .ok (false, d) ρ
      | _ => .no) = .ok (o, d) ρ' := h
    cases hg : gt ρ i with
    | un => rw [hg] at h; cases h
    | xc _ => rw [hg] at h; cases h
    | da w d2 =>
      rw [hg] at h
      cases w <;> cases h <;> cases e
theorem escO_ov : ∀ {vs : List V} {xs : List Vl} {ds : List (Bool × D)} {ρ ρ' : List En} {a : Addr}, escO xs ρ = .ok ds ρ' → Ovs vs (das ds) a → Ovs vs xs a
  | [], _, _, _, _, a, _, ⟨_, _, h, _⟩ => nomatch h
  | v :: vs, [], ds, ρ, ρ', a, h, q => by
    cases h
    obtain ⟨_, _, h, _⟩ := q
    exact nomatch h
  | v :: vs, xv :: xs, ds, ρ, ρ', a, h, q => by
    obtain ⟨⟨o, d⟩, ρ1, e1, h⟩ := Rs.bd_eq_ok (show ((esc xv ρ).bd fun d ρ1 => (escO xs ρ1).bd fun ds ρ2 => .ok (d :: ds) ρ2) = .ok ds ρ' from h)
    obtain ⟨ds', ρ2, e2, h⟩ := Rs.bd_eq_ok h
    cases h
    rcases Ovs.cons.mp (show Ovs (v :: vs) (.da o d :: das ds') a from q) with q | q
    · exact Ovs.cons.mpr (.inl (esc_ov e1 q))
    · exact Ovs.cons.mpr (.inr (escO_ov e2 q))
theorem ov_iff {v : V} {xv : Vl} {vs : List V} {xs : List Vl} : (∀ a, Ov v xv a → ∀ w y, (w, y) ∈ vs.zip xs → ¬ Ov w y a) ↔ ∀ a, Ov v xv a → ¬ Ovs vs xs a :=
  ⟨fun h a q ⟨w, y, hm, z⟩ => h a q w y hm z, fun h a q w y hm z => h a q ⟨w, y, hm, z⟩⟩
theorem escO_ok : ∀ {vs : List V} {xs : List Vl} {ds : List (Bool × D)} {Z : Addr → Prop} {ρ ρ' : List En}, Rel T Z ρ σ H → VlsR T Z H σ ρ vs xs → escO xs ρ = .ok ds ρ' → ∃ Z', Go T (Ovs vs xs) Z H ρ σ Z' H ρ' (Ovs vs (das ds)) ∧ VlsR T Z' H σ ρ' vs (das ds)
  | _, _, _, Z, ρ, ρ', r, .nil, h => by
    cases h
    exact ⟨Z, (Go.reflP r).weak fun a z => (Ovs.nil z).elim, .nil⟩
  | _, _, ds, Z, ρ, ρ', r, .cons (v := v) (x := xv) (vs := vs) (xs := xs) hv t s, h => by
    obtain ⟨⟨o, d⟩, ρ1, e1, h⟩ := Rs.bd_eq_ok (show ((esc xv ρ).bd fun d ρ1 => (escO xs ρ1).bd fun ds ρ2 => .ok (d :: ds) ρ2) = .ok ds ρ' from h)
    obtain ⟨ds', ρ2, e2, h⟩ := Rs.bd_eq_ok h
    cases h
    obtain ⟨Z1, g1, h1⟩ := esc_ok r hv e1
    have s := ov_iff.mp s
    have okP : Ok Z H fun a => Os ρ σ a ∨ Ov v xv a := r.okO.or hv.okV
    have t1 : VlsR T Z1 H σ ρ1 vs xs := t.step g1 okP fun a q z => s a z q
    obtain ⟨Z2, g2, h2⟩ := escO_ok g1.rel t1 e2
    have h3 := h1.step g2 (g1.rel.okO.or t1.okV) fun a q z => s a (esc_ov e1 q) z
    refine ⟨Z2, (((g1.frame (F := Ovs vs xs)).trans ((g2.frame (F := Ov v (.da o d))).pre fun a z => z.elim .inr .inl)).pre fun a z => Ovs.cons.mpr z).weak fun a z => (Ovs.cons.mp (show Ovs (v :: vs) (.da o d :: das ds') a from z)).elim .inr .inl, ?_⟩
    exact .cons h3 h2 (ov_iff.mpr fun a q z => s a (esc_ov e1 q) (escO_ov e2 z))
theorem escO_noex : ∀ {xs : List Vl} {ρ ρ' : List En} {xx : Xc}, escO xs ρ ≠ .ex xx ρ'
  | [], _, _, _, h => nomatch h
  | xv :: xs, ρ, ρ', xx, h => by
    have h : ((esc xv ρ).bd fun d ρ1 => (escO xs ρ1).bd fun ds ρ2 => .ok (d :: ds) ρ2) = .ex xx ρ' := h
    cases e : esc xv ρ with
    | no => rw [e] at h; cases h
    | ex y ρ1 => exact esc_noex e
    | ok p ρ1 =>
      rw [e] at h
      have h : ((escO xs ρ1).bd fun ds ρ2 => .ok (p :: ds) ρ2) = .ex xx ρ' := h
      cases e2 : escO xs ρ1 with
      | no => rw [e2] at h; cases h
      | ex y ρ2 => exact escO_noex e2
      | ok q ρ2 => rw [e2] at h; cases h
theorem VlR.move {v : V} {o : Bool} (h : VlR T Z H σ ρ v (.da o d)) (n : ∀ a, Ov v (.da o d) a → ¬ Os ρ' σ' a) : VlR T Z H σ' ρ' v (.da o d) := by
  cases o with
  | false => exact h
  | true =>
    obtain ⟨a, e, q, nz, _⟩ := h
    exact ⟨a, e, q, nz, n a ⟨⟨d, rfl⟩, e⟩⟩
theorem VlsR.move : ∀ {vs : List V} {ds : List (Bool × D)}, VlsR T Z H σ ρ vs (das ds) → (∀ a, Ovs vs (das ds) a → ¬ Os ρ' σ' a) → VlsR T Z H σ' ρ' vs (das ds)
  | [], [], _, _ => .nil
  | v :: vs, [], h, _ => nomatch h
  | [], p :: ds, h, _ => nomatch h
  | v :: vs, (o, d) :: ds, .cons h t s, n => .cons (h.move fun a q => n a (Ovs.cons.mpr (.inl q))) (VlsR.move t fun a q => n a (Ovs.cons.mpr (.inr q))) s
def setAll (σ : L2.St) : List Nat → List V → L2.St
  | i :: is, v :: vs => setAll (σ.set i (some v)) is vs
  | _, _ => σ
theorem VlsR.nos : ∀ {vs : List V} {xs : List Vl}, VlsR T Z H σ ρ vs xs → ∀ a, Ovs vs xs a → ¬ Os ρ σ a
  | _, _, .nil, a, z => (Ovs.nil z).elim
  | _, _, .cons h t _, a, z => (Ovs.cons.mp z).elim (h.nos a) (VlsR.nos t a)
theorem stAll_go : ∀ {is : List Nat} {vs : List V} {ds : List (Bool × D)} {ρ ρ' : List En} {σ : L2.St}, Rel T Z ρ σ H → VlsR T Z H σ ρ vs (das ds) → stAll is ds ρ = .ok () ρ' → GoT T is (Ovs vs (das ds)) Z H ρ σ Z H ρ' (setAll σ is vs) N0 ∧ is.length = vs.length
  | [], vs, [], ρ, ρ', σ, r, hv, h => by
    cases h
    cases hv
    exact ⟨(Go.reflP r).t.weak fun _ z => z.elim, rfl⟩
  | [], _, _ :: _, ρ, ρ', σ, r, hv, h => nomatch h
  | i :: is, _, [], ρ, ρ', σ, r, hv, h => nomatch h
  | i :: is, _, (o, d) :: ds, ρ, ρ', σ, r, .cons (v := v) (vs := vs) h1 t s, h => by
    obtain ⟨u, ρ1, e1, h⟩ := Rs.bd_eq_ok (show ((stS i o d ρ).bd fun _ ρ1 => stAll is ds ρ1) = .ok () ρ' from h)
    have g1 := store_go r h1 e1
    have s := ov_iff.mp s
    have n1 : ∀ a, Ovs vs (das ds) a → ¬ Os ρ1 (σ.set i (some v)) a := fun a q z => by
      rcases g1.nx.on a (.inl z) with z | z
      · exact z.elim (t.nos a q) fun z => s a z q
      · obtain ⟨_, e, _⟩ := (t.okV a q).2
        rw [e] at z
        cases z
    obtain ⟨g2, hl⟩ := stAll_go g1.rel (t.move n1) h
    refine ⟨(((g1.frame (F := Ovs vs (das ds))).pre fun a z => Ovs.cons.mpr z).more fun j hj => ?_).trans ((g2.pre fun a z => .inr z).more fun j hj => List.mem_cons_of_mem _ hj), by simp [hl]⟩
    rw [List.mem_singleton.mp hj]
    exact List.mem_cons_self
theorem stAll_noex : ∀ {is : List Nat} {ds : List (Bool × D)} {ρ ρ' : List En} {xx : Xc}, stAll is ds ρ ≠ .ex xx ρ'
  | [], [], _, _, _, h => nomatch h
  | [], _ :: _, _, _, _, h => nomatch h
  | _ :: _, [], _, _, _, h => nomatch h
  | i :: is, (o, d) :: ds, ρ, ρ', xx, h => by
    have h : ((stS i o d ρ).bd fun _ ρ1 => stAll is ds ρ1) = .ex xx ρ' := h
    cases e : stS i o d ρ with
    | no => rw [e] at h; cases h
    | ex y ρ1 => exact stS_noex e
    | ok p ρ1 =>
      rw [e] at h
      exact stAll_noex (show stAll is ds ρ1 = .ex xx ρ' from h)
/-- a, b = x, y -/
theorem ss_parL {is : List Nat} (h : SpS T W (fun ρ => (fs ρ).bd fun vs ρ1 => (escO vs ρ1).bd fun ds ρ2 => (stAll is ds ρ2).bd fun _ ρ3 => .ok .nx ρ3) Dn σ H) : SpA T W fs σ H fun vs H1 => is.length = vs.length ∧ Dn.nx (setAll σ is vs) H1 := by
  obtain ⟨Z, ρ, r, h⟩ := h
  refine ⟨Z, ρ, r, PstS.bind h fun vs H1 xs ρ1 Z1 _ g hv h1 => ?_⟩
  cases e : escO xs ρ1 with
  | no => rw [e] at h1; exact h1.elim
  | ex y ρ2 => exact (escO_noex e).elim
  | ok ds ρ2 =>
    rw [e] at h1
    obtain ⟨Z2, g2, q2⟩ := escO_ok g.rel hv e
    have h2 := PstS.step h1 (g2.s.pre fun a z => .inl z)
    have h2 : PstS T W _ Z2 H1 ρ2 σ ((stAll is ds ρ2).bd fun _ ρ3 => .ok .nx ρ3) Dn := h2
    cases e2 : stAll is ds ρ2 with
    | no => rw [e2] at h2; exact h2.elim
    | ex y ρ3 => exact (stAll_noex e2).elim
    | ok u ρ3 =>
      rw [e2] at h2
      obtain ⟨g3, hl⟩ := stAll_go g2.rel q2 e2
      exact ⟨hl, h2 _ _ Z2 g3.toGoS⟩
theorem ss_par2 {i j : Nat} (h : SpS T W (fun ρ => (fs ρ).bd fun vs ρ1 => (escO vs ρ1).bd fun ds ρ2 => (stAll [i, j] ds ρ2).bd fun _ ρ3 => .ok .nx ρ3) Dn σ H) : tPar i j (SpA T W fs) Dn σ H := by
  obtain ⟨Z, ρ, r, h⟩ := ss_parL h
  refine ⟨Z, ρ, r, h.mono fun vs H1 ⟨hl, q⟩ => ?_⟩
  match vs, hl with
  | [v, w], _ => exact ⟨v, w, rfl, q⟩
theorem ss_par3 {i j k : Nat} (h : SpS T W (fun ρ => (fs ρ).bd fun vs ρ1 => (escO vs ρ1).bd fun ds ρ2 => (stAll [i, j, k] ds ρ2).bd fun _ ρ3 => .ok .nx ρ3) Dn σ H) : tPar3 i j k (SpA T W fs) Dn σ H := by
  obtain ⟨Z, ρ, r, h⟩ := ss_parL h
  refine ⟨Z, ρ, r, h.mono fun vs H1 ⟨hl, q⟩ => ?_⟩
  match vs, hl with
  | [v, w, x], _ => exact ⟨v, w, x, rfl, q⟩
/-- raise C() -/
theorem ss_rai {c : Nat} {C : Addr} (hC : T.ca c = some C) (h : SpS T W (fun ρ => .ex ⟨c, []⟩ ρ) Dn σ H) : W (.ref C) none σ H := by
  obtain ⟨Z, ρ, r, h⟩ := h
  exact h (.ref C) none σ H Z (GoS.refl r) ⟨rfl, rfl, C, hC, rfl⟩
end
end G
set_option maxHeartbeats 4000000
/-! F21: enumerate over a tuple; walks over a slot's own dict. -/
namespace G
section
open PySem PySem.Spec
open Sem (wp)
open AutoSeq1 (wpAny_loadPart')
variable {prog : Program} {w : World} {A : Around} {E : Value → Shared → Prop} {s : Shared}
theorem nextOf_tuple_item {it l : Addr} {i : Nat} {items} {x : Value} {Q : Value → Shared → Prop} (hit : s.heap.IsTupleIter it l i)
    (hl : s.heap.IsTuple l items) (hx : items[i]? = some x)
    (hQ : ∀ h', h'.IsTupleIter it l (i + 1) → Heap.SameBut it s.heap h' → Q x { s with heap := h' }) :
    wpAny (model prog w) A (Builtin.SmallTypes.nextOf (.ref it)) Q E s := by
  obtain ⟨o, ho, hc, hd⟩ := id hit
  obtain ⟨ol, hol, _, nl, hdl⟩ := hl
  unfold Builtin.SmallTypes.nextOf
  refine wpAny_bind (wpAny_callSpecial?_slot (name := Str.ofString "__next__") hit.typeIs F.slot_tuple_iterator_next
    (wpAny_call_entry F.slot_tuple_iterator_next hit.typeIs F.entry_tuple_iterator_next ?_ (F.args_tuple_iterator_next_1 _)))
  show wpAny _ _ (field (.ref it) 0 >>= _) _ _ s
  refine wpAny_bind (wpAny_field ho hd (x := .ref l) rfl ?_)
  show wpAny _ _ (if (Value.ref l == Value.none) = true then _ else _) _ _ s
  rw [if_neg (show ¬ ((Value.ref l == Value.none) = true) from Bool.false_ne_true)]
  show wpAny _ _ (field (.ref it) 1 >>= _) _ _ s
  refine wpAny_bind (wpAny_field ho hd (x := .int i 0) rfl ?_)
  show wpAny _ _ (seqItems? (.ref l) >>= _) _ _ s
  refine wpAny_bind (wpAny_seqItems hol hdl ?_)
  simp only [Int.toNat_natCast, hx]
  refine wpAny_bind (wpAny_setField ho hd (by simp) (wpAny_pure ⟨x, rfl, wpAny_pure (hQ _ ?_ (Heap.SameBut.update ..))⟩))
  exact ⟨_, Heap.get?_update_self _ ho (Obj.isFreed_of_fields (Obj.data_mapFields hd _)), (Obj.cls_mapFields ..).trans hc, by
    rw [Obj.data_mapFields hd]; simp [rawInt]⟩
theorem nextOf_tuple_end {it l : Addr} {i : Nat} {items} {Q : Value → Shared → Prop} (hh : A.handled = none)
    (hit : s.heap.IsTupleIter it l i) (hl : s.heap.IsTuple l items) (hx : items[i]? = none)
    (hE : ∀ h' e, Heap.ExtBut it s.heap h' → (∃ o, h'.get? e = some o ∧ o.cls = .type "StopIteration") → E (.ref e) { s with heap := h' }) :
    wpAny (model prog w) A (Builtin.SmallTypes.nextOf (.ref it)) Q E s := by
  obtain ⟨o, ho, hc, hd⟩ := id hit
  obtain ⟨ol, hol, _, nl, hdl⟩ := hl
  unfold Builtin.SmallTypes.nextOf
  refine wpAny_bind (wpAny_callSpecial?_slot (name := Str.ofString "__next__") hit.typeIs F.slot_tuple_iterator_next
    (wpAny_call_entry F.slot_tuple_iterator_next hit.typeIs F.entry_tuple_iterator_next ?_ (F.args_tuple_iterator_next_1 _)))
  show wpAny _ _ (field (.ref it) 0 >>= _) _ _ s
  refine wpAny_bind (wpAny_field ho hd (x := .ref l) rfl ?_)
  show wpAny _ _ (if (Value.ref l == Value.none) = true then _ else _) _ _ s
  rw [if_neg (show ¬ ((Value.ref l == Value.none) = true) from Bool.false_ne_true)]
  show wpAny _ _ (field (.ref it) 1 >>= _) _ _ s
  refine wpAny_bind (wpAny_field ho hd (x := .int i 0) rfl ?_)
  show wpAny _ _ (seqItems? (.ref l) >>= _) _ _ s
  refine wpAny_bind (wpAny_seqItems hol hdl ?_)
  simp only [Int.toNat_natCast, hx]
  refine wpAny_bind (wpAny_rule (wpAny_bind (wpAny_setField ho hd (by simp) ?_)))
  show wpAny _ _ (newExc (.type "StopIteration") [] >>= _) _ _ _
  refine wpAny_bind ?_
  simp only [newExc, newTuple]
  refine wpAny_bind (wpAny_newObj_type ?_ (by size_fits))
  refine wpAny_bind (m := firstArgMember _ _) (wpAny_of_eq (a := Value.none) (by first | rfl | (simp only [firstArgMember]; rfl)) ?_)
  refine wpAny_newObj_type ?_ (by size_fits)
  simp only [raiseNew]
  refine wpAny_bind (wpAny_handled ?_)
  first | rw [show A.in1.handled = none from hh] | rw [hh]
  refine wpAny_bind (wpAny_pure (wpAny_throw ?_))
  exact hE _ _ (((Heap.SameBut.update ..).extBut.push _).push _) ⟨_, Heap.get?_push_size _ rfl, rfl⟩
theorem enumT_next_item {e it l : Addr} {i : Nat} {items : Array Value} {x old : Value} {Q : Value → Shared → Prop}
    (he : IsEnum s.heap e it i old) (hit : s.heap.IsTupleIter it l i) (hl : s.heap.IsTuple l items) (hx : items[i]? = some x) (hne : e ≠ it)
    (hQ : ∀ h', IsEnumOut h' e it ((i : Int) + 1) x s.heap.objs.size → h'.IsTupleIter it l (i + 1) →
      h'.get? s.heap.objs.size = some { cls := .type "tuple", data := .seq #[.int i s.toks, x] } → h'.objs.size = s.heap.objs.size + 1 →
      (∀ b o, b ≠ e → b ≠ it → s.heap.get? b = some o → h'.get? b = some o) → Q (.ref s.heap.objs.size) { s with heap := h', toks := s.toks + 1 }) :
    wpAny (model prog w) A (Builtin.«enumerate.__next__» ⟨[.ref e], []⟩) (fun fin s' => ∃ v, fin = .done (.ret v) ∧ Q v s') E s := by
  obtain ⟨hp, g, d, tk, os⟩ := s
  show wpAny _ _ (field (.ref e) 2 >>= _) _ _ _
  refine wpAny_bind (wpAny_field he rfl (x := .ref it) rfl ?_)
  refine wpAny_bind (nextOf_tuple_item hit hl hx fun h₁ hit₁ hs₁ => ?_)
  replace hs₁ : Heap.SameBut it hp h₁ := hs₁
  have he₁ : IsEnum h₁ e it i old := (hs₁.2 e hne).trans he
  show wpAny _ _ (field (.ref e) 3 >>= _) _ _ ⟨h₁, g, d, tk, os⟩
  refine wpAny_bind (wpAny_field he₁ rfl (x := rawInt i) rfl ?_)
  show wpAny _ _ (field (.ref e) 4 >>= _) _ _ ⟨h₁, g, d, tk, os⟩
  refine wpAny_bind (wpAny_field he₁ rfl (x := .none) rfl ?_)
  show wpAny _ _ (mkInt i >>= _) _ _ ⟨h₁, g, d, tk, os⟩
  refine wpAny_bind (wpAny_mkInt ?_)
  show wpAny _ _ (setField (.ref e) 3 (rawInt ((i : Int) + 1)) >>= _) _ _ ⟨h₁, g, d, tk + 1, os⟩
  refine wpAny_bind (wpAny_setField_rec he₁ (by simp) fun h₂ he₂ hs₂ => ?_)
  replace hs₂ : Heap.SameBut e h₁ h₂ := hs₂
  replace he₂ : IsEnum h₂ e it ((i : Int) + 1) old := he₂
  show wpAny _ _ (setField (.ref e) 4 .none >>= _) _ _ ⟨h₂, g, d, tk + 1, os⟩
  refine wpAny_bind (wpAny_setField_rec he₂ (by simp) fun h₃ he₃ hs₃ => ?_)
  replace hs₃ : Heap.SameBut e h₂ h₃ := hs₃
  replace he₃ : IsEnum h₃ e it ((i : Int) + 1) old := he₃
  show wpAny _ _ (newTuple [.int i tk, x] >>= _) _ _ ⟨h₃, g, d, tk + 1, os⟩
  refine wpAny_bind (wpAny_newTuple ?_)
  have he₄ : IsEnum (h₃.push { cls := .type "tuple", data := .seq #[.int i tk, x] }) e it ((i : Int) + 1) old := Heap.get?_push_of_some _ he₃
  generalize hh₄ : h₃.push { cls := .type "tuple", data := .seq #[.int i tk, x] } = h₄ at he₄
  have hsz : h₃.objs.size = hp.objs.size := by rw [hs₃.1, hs₂.1, hs₁.1]
  have hel : e < hp.objs.size := Heap.lt_size he
  have ht₄ : h₄.get? hp.objs.size = some { cls := .type "tuple", data := .seq #[.int i tk, x] } := by rw [← hh₄, ← hsz]; exact Heap.get?_push_size _ rfl
  have hz₄ : h₄.objs.size = hp.objs.size + 1 := by rw [← hh₄, Heap.size_push, hsz]
  have hk₄ : ∀ b o, b ≠ e → b ≠ it → hp.get? b = some o → h₄.get? b = some o := fun b o hbe hbi hb => by
    rw [← hh₄]; exact Heap.get?_push_of_some _ (hs₃.extBut b o hbe (hs₂.extBut b o hbe (hs₁.extBut b o hbi hb)))
  have hit₄ : h₄.IsTupleIter it l (i + 1) := by
    rw [← hh₄]; obtain ⟨o, ho, r⟩ := (hit₁.extBut hs₂.extBut (Ne.symm hne)).extBut hs₃.extBut (Ne.symm hne); exact ⟨o, Heap.get?_push_of_some _ ho, r⟩
  show wpAny _ _ (Builtin.SmallTypes.ownedTupleIsFree (.ref e) >>= _) _ _ ⟨h₄, g, d, tk + 1, os⟩
  rw [hsz]
  clear hh₄ he₃ hs₃ he₂ hs₂ he₁ hs₁ hit₁ hsz h₃ h₂ h₁
  refine wpAny_bind ?_
  · unfold Builtin.SmallTypes.ownedTupleIsFree
    refine wpAny_bind (wpAny_field he₄ rfl (x := .none) rfl (wpAny_pure ?_))
    simp only [if_true]
    refine wpAny_bind (wpAny_rule ?_)
    refine wpAny_bind (wpAny_field he₄ rfl (x := old) rfl ?_)
    refine wpAny_bind (wpAny_setField_rec he₄ (by simp) fun h₅ he₅ hs₅ => ?_)
    replace hs₅ : Heap.SameBut e h₄ h₅ := hs₅
    replace he₅ : IsEnum h₅ e it ((i : Int) + 1) x := he₅
    show wpAny _ _ (Builtin.SmallTypes.ownedTupleHandOut (.ref e) (.ref hp.objs.size) >>= _) _ _ ⟨h₅, g, d, tk + 1, os⟩
    refine wpAny_bind ?_
    · unfold Builtin.SmallTypes.ownedTupleHandOut
      refine wpAny_bind (wpAny_setField_rec he₅ (by simp) fun h₆ he₆ hs₆ => ?_)
      replace hs₆ : Heap.SameBut e h₅ h₆ := hs₆
      replace he₆ : IsEnumOut h₆ e it ((i : Int) + 1) x hp.objs.size := he₆
      refine wpAny_setField_rec he₆ (by simp) fun h₇ he₇ hs₇ => ?_
      replace hs₇ : Heap.SameBut e h₆ h₇ := hs₇
      replace he₇ : IsEnumOut h₇ e it ((i : Int) + 1) x hp.objs.size := he₇
      refine wpAny_bind (wpAny_letGo (wpAny_pure ⟨_, rfl, hQ h₇ he₇ ?_ ?_ ?_ ?_⟩))
      · exact ((hit₄.extBut hs₅.extBut (Ne.symm hne)).extBut hs₆.extBut (Ne.symm hne)).extBut hs₇.extBut (Ne.symm hne)
      · exact hs₇.extBut _ _ (Nat.ne_of_gt hel) (hs₆.extBut _ _ (Nat.ne_of_gt hel) (hs₅.extBut _ _ (Nat.ne_of_gt hel) ht₄))
      · rw [hs₇.1, hs₆.1, hs₅.1, hz₄]
      · exact fun b o hbe hbi hb => hs₇.extBut b o hbe (hs₆.extBut b o hbe (hs₅.extBut b o hbe (hk₄ b o hbe hbi hb)))
theorem pyNext_enumT_item {e it l : Addr} {i : Nat} {items : Array Value} {x old : Value} {Q : Option Value → Shared → Prop}
    (he : IsEnum s.heap e it i old) (hit : s.heap.IsTupleIter it l i) (hl : s.heap.IsTuple l items) (hx : items[i]? = some x) (hne : e ≠ it)
    (hQ : ∀ h', IsEnumOut h' e it ((i : Int) + 1) x s.heap.objs.size → h'.IsTupleIter it l (i + 1) →
      h'.get? s.heap.objs.size = some { cls := .type "tuple", data := .seq #[.int i s.toks, x] } → h'.objs.size = s.heap.objs.size + 1 →
      (∀ b o, b ≠ e → b ≠ it → s.heap.get? b = some o → h'.get? b = some o) → Q (some (.ref s.heap.objs.size)) { s with heap := h', toks := s.toks + 1 }) :
    wpAny (model prog w) A (pyNext (.ref e)) Q E s := by
  have hT : s.TypeIs (.ref e) "enumerate" := ⟨_, he, rfl⟩
  unfold pyNext
  exact wpAny_bind (wpAny_attempt (wpAny_callSpecial?_slot (name := Str.ofString "__next__") hT F.slot_enumerate_next
    (wpAny_call_entry F.slot_enumerate_next hT F.entry_enumerate_next
      (enumT_next_item he hit hl hx hne fun h' a b c d k => wpAny_pure (hQ h' a b c d k)) (F.args_enumerate_next_1 _))))
theorem pyNext_enumT_end {e it l : Addr} {i : Nat} {items : Array Value} {old : Value} {Q : Option Value → Shared → Prop} (hh : A.handled = none)
    (he : IsEnum s.heap e it i old) (hit : s.heap.IsTupleIter it l i) (hl : s.heap.IsTuple l items) (hx : items[i]? = none)
    (hQ : ∀ h', Heap.ExtBut it s.heap h' → Q none { s with heap := h' }) : wpAny (model prog w) A (pyNext (.ref e)) Q E s := by
  have hT : s.TypeIs (.ref e) "enumerate" := ⟨_, he, rfl⟩
  unfold pyNext
  refine wpAny_bind (wpAny_attempt (wpAny_callSpecial?_slot (name := Str.ofString "__next__") hT F.slot_enumerate_next
    (wpAny_call_entry F.slot_enumerate_next hT F.entry_enumerate_next ?_ (F.args_enumerate_next_1 _))))
  show wpAny _ _ (field (.ref e) 2 >>= _) _ _ _
  refine wpAny_bind (wpAny_field he rfl (x := .ref it) rfl ?_)
  refine wpAny_bind (nextOf_tuple_end hh hit hl hx fun h' x he' hx' => ?_)
  obtain ⟨o, ho, hc⟩ := hx'
  refine wpAny_bind (wpAny_isInstance (T := "StopIteration") (b := true) ⟨o, ho, hc⟩ isSubtype_stop ?_)
  exact wpAny_pure (hQ _ he')
theorem meets_enumerate_newT (l : Addr) (items : Array Value) (n : Nat) (dct : Option Addr) (sl : Array (Option Value)) :
    Meets (Builtin.«enumerate.__new__» ⟨[.type "enumerate", .ref l], []⟩) (fun _ R s => s.heap.get? l = some { cls := .type "tuple", dict := dct, data := .seq items n, slots := sl } ∧
      R (.ok (.ret (.ref (s.heap.push { cls := .type "tuple_iterator", data := .fields #[.ref l, .int 0 0] }).objs.size)))
        { s with heap := (s.heap.push { cls := .type "tuple_iterator", data := .fields #[.ref l, .int 0 0] }).push { cls := .type "enumerate", data := .fields #[.none, .bool false, .ref s.heap.objs.size, rawInt 0, .none, .none] } }) :=
  .of_wp fun prog w A R s h => by
    obtain ⟨hp, g, d, tk, os⟩ := s; obtain ⟨hl, h⟩ := h
    have hsub := sub_enumerate
    have hL : Heap.IsTuple (Shared.heap ⟨hp, g, d, tk, os⟩) l items := ⟨_, hl, rfl, n, rfl⟩
    wp_walk using wpAny_loadPart' hl
    refine wpAny_stack_any fun st => wpAny_pure ?_
    split
    · rename_i c _ _ _ _ _
      cases (c == Value.type "enumerate")
      · wp_walk using wpAny_loadPart' hl, wpAny_pyIter_tuple hL
        exact ⟨_, rfl, h⟩
      · wp_walk using wpAny_loadPart' hl, wpAny_pyIter_tuple hL
        exact ⟨_, rfl, h⟩
    · wp_walk using wpAny_loadPart' hl, wpAny_pyIter_tuple hL
      exact ⟨_, rfl, h⟩
theorem call_enumerate_tup {l : Addr} {items : Array Value} {Q : Value → Shared → Prop} (hL : s.heap.IsTuple l items)
    (h : ∀ h', IsEnum h' (s.heap.objs.size + 1) s.heap.objs.size 0 .none → h'.IsTupleIter s.heap.objs.size l 0 → h'.objs.size = s.heap.objs.size + 2 →
      (∀ b o, s.heap.get? b = some o → h'.get? b = some o) → Q (.ref (s.heap.objs.size + 1)) { s with heap := h' }) :
    wpAny (model prog w) A (call (.type "enumerate") [.ref l]) Q E s := by
  obtain ⟨⟨c, dct, dt, sl⟩, hl, hc, n, hd⟩ := hL
  replace hc : c = .type "tuple" := hc
  replace hd : dt = .seq items n := hd
  subst hc hd
  refine callType_new F.called_enumerate (by decide) (F.typeCall_enumerate_1 _) (F.newCall_enumerate_1 _) (fun obj => F.args_object_init_2 obj _) F.entry_enumerate_new
    (meets_enumerate_newT l items n dct sl) ⟨hl, ?_⟩
  have hz : (s.heap.push { cls := .type "tuple_iterator", data := .fields #[.ref l, .int 0 0] }).objs.size = s.heap.objs.size + 1 := Heap.size_push ..
  show _ ∧ _
  rw [hz]
  have he : IsEnum ((s.heap.push { cls := .type "tuple_iterator", data := .fields #[.ref l, .int 0 0] }).push
      { cls := .type "enumerate", data := .fields #[.none, .bool false, .ref s.heap.objs.size, rawInt 0, .none, .none] }) (s.heap.objs.size + 1) s.heap.objs.size 0 .none := by
    have := Heap.get?_push_size (s.heap.push { cls := .type "tuple_iterator", data := .fields #[.ref l, .int 0 0] })
      (o := { cls := .type "enumerate", data := .fields #[.none, .bool false, .ref s.heap.objs.size, rawInt 0, .none, .none] }) rfl
    rw [hz] at this; exact this
  refine ⟨⟨_, he, rfl⟩, h _ he ⟨_, Heap.get?_push_of_some _ (Heap.get?_push_size _ rfl), rfl, rfl⟩ (by rw [Heap.size_push, hz]) fun b o x => Heap.get?_push_of_some _ (Heap.get?_push_of_some _ x)⟩
end
end G
set_option maxHeartbeats 4000000
/-! F22: enumerate, keys of a slot's own dict; raise. -/
namespace G
open PySem L2 PySem.Spec PyProof.Rows
def ItT (K : PySem.W.Frag) (a : Addr) : L2.It :=
  ⟨fun i H => ∃ (xs : List V) (x : V), SqT K H a xs ∧ xs[i]? = some x, fun i H v H' => ∃ T x, v = .ref T ∧ H T = none ∧ H' = upd H T (.tup [.int (i : Nat), x]) ∧ ∀ xs, SqT K H a xs → xs[i]? = some x, fun i H => ∃ xs : List V, SqT K H a xs ∧ xs.length ≤ i⟩
theorem turn_enumT {P : Program} {w : World} {K : PySem.W.Frag} {elts : List Expr} {kk : Nat} {tpos : Pos} (a e it : Addr) :
    Turn P w K (.Tuple elts kk tpos) (ItT K a) [e, it] e (fun i h => (∃ old, IsEnum h e it ((i : Nat) : Int) old) ∧ h.IsTupleIter it a i ∧ e ≠ it) where
  mem := by simp
  obj := fun i h st b hb => by
    obtain ⟨⟨old, he⟩, ⟨o, ho, hc, hd⟩, _⟩ := st
    have e' : b = e ∨ b = it := by simpa using hb
    rcases e' with z | z
    · rw [z]; exact ⟨_, he, fun v q => nomatch q⟩
    · rw [z]; exact ⟨o, ho, fun v q => by rw [hd] at q; cases q⟩
  keep := fun i h h' st k => let ⟨⟨old, he⟩, hi, hne⟩ := st; ⟨⟨old, k e (by simp) _ he⟩, hi.at fun o q => k it (by simp) o q, hne⟩
  item := by
    intro X hP hw hK hc i pins s σ H E I hf st hg
    subst hP hw hK
    obtain ⟨⟨old, he⟩, hit, hne⟩ := st
    obtain ⟨xs, x, hq, hx⟩ := hg
    obtain ⟨its, rv, p, hz⟩ := I.tuple hq
    obtain ⟨u, hu, ru⟩ := rv.get hx
    have hel : e < s.heap.objs.size := Heap.lt_size he
    have hil : it < s.heap.objs.size := by obtain ⟨_, q, _⟩ := hit; exact Heap.lt_size q
    refine pyNext_enumT_item he hit (show s.heap.IsTuple a its.toArray from p) (x := u) (by simpa using hu) hne fun h' ho hit' hT hsz hk => ?_
    refine ⟨_, rfl, wpAny_letOwnedTupleGo_enum (s := { s with heap := h', toks := s.toks + 1 }) ho fun h'' he' sb => ?_⟩
    have hT2 : h''.get? s.heap.objs.size = some { cls := .type "tuple", data := .seq #[.int i s.toks, u] } := (sb.2 _ (Nat.ne_of_gt hel)).trans hT
    have new : ObjOk X.prog X.w (upd H s.heap.objs.size (.tup [.int (i : Nat), x])) h'' s.heap.objs.size (.tup [.int (i : Nat), x]) :=
      ⟨by show 2 ≤ sizeLine; decide, [.int i s.toks, u], .cons ⟨_, rfl⟩ (.cons ru .nil), ⟨_, hT2, rfl, _, rfl⟩⟩
    have I1 : Inv X pins σ (upd H s.heap.objs.size (.tup [.int (i : Nat), x])) { s with heap := h'', toks := s.toks + 1 } :=
      I.turnedNew (ch := [e, it]) (fun b ob hb q => (sb.2 b (fun z => hb (by simp [z]))).trans (hk b ob (fun z => hb (by simp [z])) (fun z => hb (by simp [z])) q)) hf (Nat.le_refl _) new
    refine ⟨.ref s.heap.objs.size, _, I1, rfl, ⟨_, x, rfl, I.hok.fresh (Nat.le_refl _), rfl, fun ys hy => by rw [I.tuple_inj hy hq]; exact hx⟩, ⟨⟨u, ?_⟩, hit'.at fun o q => (sb.2 it (Ne.symm hne)).trans q, hne⟩, fun b hb => ?_⟩
    · have e1 : ((i + 1 : Nat) : Int) = (i : Int) + 1 := by omega
      rw [e1]; exact he'
    · have hb' : b < s.heap.objs.size := by
        have e' : b = e ∨ b = it := by simpa using hb
        rcases e' with z | z
        · rw [z]; exact hel
        · rw [z]; exact hil
      rw [upd_ne (Nat.ne_of_lt hb')]
      exact (hf b hb).1
  done := by
    intro X hP hw hK hc i pins s σ H E I hf st hg
    subst hP hw hK
    obtain ⟨⟨old, he⟩, hit, hne⟩ := st
    obtain ⟨xs, hq, hx⟩ := hg
    obtain ⟨its, rv, p, hz⟩ := I.tuple hq
    obtain ⟨f0, f1, f2, f3, f4, f5⟩ := hf it (by simp)
    have hl := rv.length
    exact pyNext_enumT_end (I.ok.hd hc) he hit (show s.heap.IsTuple a its.toArray from p) (by simp; omega) fun h' eb => ⟨rfl, I.turned (t' := s.toks) (fun b o hb q => eb b o hb q) f0 f1 f3 f4 f5⟩
  self := fun A i s Q E st h => let ⟨⟨_, he⟩, _⟩ := st; wpAny_pyIter_enum he h
theorem walk_enumT {K : PySem.W.Frag} {a : Addr} {xs : List V} : Walk (ItT K a) xs.length (fun H => SqT K H a xs) (YPair (fun i => some (.int (i : Nat))) (fun i => xs[i]?)) := by
  refine ⟨fun i _ hi q => ⟨xs, xs[i], q, by simp [hi]⟩, fun _ q => ⟨xs, q, Nat.le_refl _⟩, fun i H v H' _ q y => ?_⟩
  obtain ⟨T, x, h1, h2, h3, h4⟩ := y
  exact ⟨T, .int (i : Nat), x, h1, h2, h3, rfl, h4 xs q⟩
/-- enumerate over a list or a tuple -/
def iEnm (K : PySem.W.Frag) (ta : TA) : TI := fun σ H R => ta σ H fun vs H1 => ∃ a, vs = [.ref a] ∧ ((∃ xs, SqL K H1 a xs ∧ R (Ite K a) H1) ∨ ∃ xs, SqT K H1 a xs ∧ R (ItT K a) H1)
theorem pi_enm {X : Cx} {e : Expr} {ta : TA} {p pos tpos : Pos} {elts : List Expr} {kk : Nat} (hg : Gl X "enumerate") (hm : X.mg "enumerate" = none) (ha : PA X [e] ta) (hs : starEach [e] X.env = [(false, eval e X.env)] := by rfl) :
    PI X (.Tuple elts kk tpos) (.Call (.Name "enumerate" p) [e] [] pos) (iEnm X.K ta) := by
  refine ⟨fun pins s σ H R I h => ?_⟩
  refine Call_ (ld_blt I hg hm boot_enumerate (PyProof.Rows.callWith_type1 (thn (ha.run pos pins s σ H _ I h) fun us s1 ⟨vs, H1, I1, r1, q1⟩ => ?_) hs rfl))
  obtain ⟨a, ex, q⟩ := q1
  subst ex
  cases r1 with
  | cons r rr =>
    cases rr
    cases r
    rcases q with ⟨xs, hq, q⟩ | ⟨xs, hq, q⟩
    · obtain ⟨its, rv, p', hz⟩ := I1.list hq
      refine call_enumerate_list p'.isList fun h' he hit hsz hk => wpAny_pyIter_enum he ?_
      have I2 : Inv X pins σ H1 { s1 with heap := h' } := I1.kept (t' := s1.toks) hk
      refine ⟨s1.heap.objs.size + 1, [s1.heap.objs.size + 1, s1.heap.objs.size], _, _, H1, rfl, I2, turn_enum a (s1.heap.objs.size + 1) s1.heap.objs.size, ⟨⟨.none, he⟩, hit, Nat.succ_ne_self _⟩, fun b hb => ?_, q⟩
      have e' : b = s1.heap.objs.size + 1 ∨ b = s1.heap.objs.size := by simpa using hb
      have hle : s1.heap.objs.size ≤ b := by
        rcases e' with z | z
        · rw [z]; exact Nat.le_add_right _ _
        · rw [z]; exact Nat.le_refl _
      exact I1.fpOk hle (I1.hok.fresh hle)
    · obtain ⟨its, rv, p', hz⟩ := I1.tuple hq
      refine call_enumerate_tup (show s1.heap.IsTuple a its.toArray from p') fun h' he hit hsz hk => wpAny_pyIter_enum he ?_
      have I2 : Inv X pins σ H1 { s1 with heap := h' } := I1.kept (t' := s1.toks) hk
      refine ⟨s1.heap.objs.size + 1, [s1.heap.objs.size + 1, s1.heap.objs.size], _, _, H1, rfl, I2, turn_enumT a (s1.heap.objs.size + 1) s1.heap.objs.size, ⟨⟨.none, he⟩, hit, Nat.succ_ne_self _⟩, fun b hb => ?_, q⟩
      have e' : b = s1.heap.objs.size + 1 ∨ b = s1.heap.objs.size := by simpa using hb
      have hle : s1.heap.objs.size ≤ b := by
        rcases e' with z | z
        · rw [z]; exact Nat.le_add_right _ _
        · rw [z]; exact Nat.le_refl _
      exact I1.fpOk hle (I1.hok.fresh hle)
section
variable {T : Tb} {W : WX} {Z Z' Z'' : Addr → Prop} {H H' H'' : Hp} {ρ ρ' ρ'' : List En} {σ σ' σ'' : L2.St} {P : Addr → Prop} {x y : V} {d e : D} {Q : VK} {Dn : Ends}
variable {fa : List En → Rs Vl}
theorem src_enumT {K : PySem.W.Frag} {a : Addr} {vs : List V} {ds : List D} (h : H a = some (.tup vs)) (hr : RpL T Z H vs ds) : Src T (ItT K a) (enumD ds 0) Z H := by
  refine ⟨fun H => SqT K H a vs, YPair (fun i => some (.int (i : Nat))) (fun i => vs[i]?), by rw [enum_len, ← hr.length]; exact walk_enumT (xs := vs), fun Z' H' l => ⟨.of (l.tp a _ h), fun i x H'' d e y => ?_⟩⟩
  obtain ⟨dx, e1, rfl⟩ := enum_get e
  refine yPair_ok y (fun w hw => ?_) fun w hw => ?_
  · cases hw
    rw [Nat.zero_add]
    exact .int _
  · obtain ⟨v, h1, h2⟩ := (l.rpL hr).get e1
    rw [hw] at h1; cases h1; exact h2
theorem spI_enm2 {σ : L2.St} {H : Hp} {R : L2.It → Hp → Prop} (h : SpI T W (fun ρ => (fa ρ).bd fun x ρ1 => (esc x ρ1).bd fun d ρ2 => match d.2 with
    | .lst xs => .ok (enumD xs 0) ρ2
    | .tup xs => .ok (enumD xs 0) ρ2
    | _ => .no) σ H R) : iEnm T.K (tCons (Sp T W fa) tNil) σ H R := by
  obtain ⟨Z, ρ, r, h⟩ := h
  refine ⟨Z, ρ, r, Pst.bind h fun v H1 x ρ1 Z1 _ g hv h1 => ?_⟩
  obtain ⟨o, d, ρ2, Z2, r2, q, _, _, h2⟩ := Pst.list g.rel hv h1 fun a z => .inl z
  cases d with
  | lst ds =>
    cases q with
    | lst hz h3 h4 => exact ⟨_, rfl, .inl ⟨_, .inl h3, Pst.val r2 (show Pst T W (RI T) OB N0 Z2 H1 ρ2 σ (.ok (enumD ds 0) ρ2) R from h2) (v := Ite T.K _) (src_enum hz h3 h4) fun _ z => z.elim⟩⟩
  | tup ds =>
    cases q with
    | tup h3 h4 => exact ⟨_, rfl, .inr ⟨_, .of h3, Pst.val r2 (show Pst T W (RI T) OB N0 Z2 H1 ρ2 σ (.ok (enumD ds 0) ρ2) R from h2) (v := ItT T.K _) (src_enumT h3 h4) fun _ z => z.elim⟩⟩
  | _ => exact h2.elim
/-- the keys of a slot's own dict, locked from here on -/
def iKeysS (i : Nat) : TI := fun σ H R => ∃ a kvs, σ[i]? = some (some (.ref a)) ∧ H a = some (.dK kvs) ∧ ∀ o, R (Itk a o kvs) (upd H a (.frz o (.dK kvs)))
theorem pi_keysS {X : Cx} {tg e : Expr} {i : Nat} (he : PE X e (tVar i)) : PI X tg e (iKeysS i) := by
  refine ⟨fun pins s σ H R I h => ?_⟩
  obtain ⟨a, kvs, e1, e2, q⟩ := h
  obtain ⟨od, I1⟩ := I.lock e2 trivial
  exact (pi_keys (tg := tg) he).run pins s σ _ R I1 ⟨.ref a, e1, a, od, rfl, .inl ⟨kvs, upd_same, q od⟩⟩
theorem ints_get : ∀ {ks : List D} {is : List Int} {i : Nat} {d : D}, D.ints ks = some is → ks[i]? = some d → ∃ j, d = .int j
  | [], _, i, d, _, h => by simp at h
  | .int j :: ks, is, 0, d, _, h => by cases h; exact ⟨j, rfl⟩
  | .int j :: ks, is, i + 1, d, hi, h => by
    have hi : (D.ints ks).map (j :: ·) = some is := hi
    cases q : D.ints ks with
    | none => rw [q] at hi; cases hi
    | some js => exact ints_get (i := i) q (by simpa using h)
  | .non :: _, _, _, _, hi, _ => nomatch hi
  | .bl _ :: _, _, _, _, hi, _ => nomatch hi
  | .str _ :: _, _, _, _, hi, _ => nomatch hi
  | .tup _ :: _, _, _, _, hi, _ => nomatch hi
  | .lst _ :: _, _, _, _, hi, _ => nomatch hi
  | .dct _ _ _ :: _, _, _, _, hi, _ => nomatch hi
  | .fn _ :: _, _, _, _, hi, _ => nomatch hi
  | .ins _ _ :: _, _, _, _, hi, _ => nomatch hi
mutual
theorem Rp.rdm (hr : ∀ b u, Z b → Rd H b u → Rd H' b u) (ht : ∀ b xs, H b = some (.tup xs) → H' b = some (.tup xs)) : ∀ {v : V} {d : D}, Rp T Z H v d → Rp T Z H' v d
  | _, _, .non => .non
  | _, _, .bl b => .bl b
  | _, _, .int i => .int i
  | _, _, .str h => .str h
  | _, _, .tup h1 h2 => .tup (ht _ _ h1) (RpL.rdm hr ht h2)
  | _, _, .lst z h1 h2 => .lst z (hr _ _ z h1) (RpL.rdm hr ht h2)
  | _, _, .dK z h1 h2 => .dK z (hr _ _ z h1) (RpL.rdm hr ht h2)
  | _, _, .dT z h1 h2 => .dT z (hr _ _ z h1) (RpL.rdm hr ht h2)
  | _, _, .fn h => .fn h
theorem RpL.rdm (hr : ∀ b u, Z b → Rd H b u → Rd H' b u) (ht : ∀ b xs, H b = some (.tup xs) → H' b = some (.tup xs)) : ∀ {vs : List V} {ds : List D}, RpL T Z H vs ds → RpL T Z H' vs ds
  | _, _, .nil => .nil
  | _, _, .cons h1 h2 => .cons (Rp.rdm hr ht h1) (RpL.rdm hr ht h2)
end
theorem Rp.dz {a : Addr} {ks vs : List D} {t : Bool} (h : Rp T Z H (.ref a) (.dct t ks vs)) : Z a := by
  cases h with
  | dK z _ _ => exact z
  | dT z _ _ => exact z
/-- a frozen dict is locked -/
theorem lock_go {a : Addr} {kvs : List (Key × V)} {o : Obj} (r : Rel T Z ρ σ H) (hz : Z a) (hH : H a = some (.dK kvs)) : Rel T Z ρ σ (upd H a (.frz o (.dK kvs))) ∧ ∀ v d, Rp T Z H v d → Rp T Z (upd H a (.frz o (.dK kvs))) v d := by
  have ne : ∀ b, b ≠ a → upd H a (.frz o (.dK kvs)) b = H b := fun b hb => upd_ne hb
  have hr : ∀ b u, Z b → Rd H b u → Rd (upd H a (.frz o (.dK kvs))) b u := fun b u _ hb => by
    by_cases hba : b = a
    · subst hba
      rcases hb with hb | ⟨o', hb⟩
      · rw [hH] at hb; cases hb; exact .inr ⟨o, upd_same⟩
      · rw [hH] at hb; cases hb
    · rcases hb with hb | ⟨o', hb⟩
      · exact .inl (by rw [ne b hba]; exact hb)
      · exact .inr ⟨o', by rw [ne b hba]; exact hb⟩
  have ht : ∀ b xs, H b = some (.tup xs) → upd H a (.frz o (.dK kvs)) b = some (.tup xs) := fun b xs hb => by
    rw [ne b (fun z => by rw [z, hH] at hb; cases hb)]
    exact hb
  have hw : ∀ j b d, Own ρ σ j b → Rw T Z H b d → Rw T Z (upd H a (.frz o (.dK kvs))) b d := fun j b d ho hb => by
    have nb : b ≠ a := fun z => r.zs b ⟨j, ho⟩ (by rw [z]; exact hz)
    cases hb with
    | lst h1 h2 => exact .lst (by rw [ne b nb]; exact h1) (h2.rdm hr ht)
    | dK h1 h2 => exact .dK (by rw [ne b nb]; exact h1) (h2.rdm hr ht)
    | dT h1 h2 => exact .dT (by rw [ne b nb]; exact h1) (h2.rdm hr ht)
  refine ⟨⟨r.len, fun j => ?_, r.sep, r.zs, fun b zb h => ?_⟩, fun v d h => h.rdm hr ht⟩
  · have q := r.sl j
    cases e : gt ρ j with
    | un => trivial
    | xc x => rw [e] at q; exact q
    | da w d =>
      rw [e] at q
      cases w with
      | s =>
        obtain ⟨v, e1, q⟩ := q
        exact ⟨v, e1, q.rdm hr ht⟩
      | o =>
        obtain ⟨b, e1, q⟩ := q
        exact ⟨b, e1, hw j b d ⟨⟨.o, d, e, by decide⟩, e1⟩ q⟩
      | l =>
        obtain ⟨b, e1, q⟩ := q
        exact ⟨b, e1, hw j b d ⟨⟨.l, d, e, by decide⟩, e1⟩ q⟩
  · by_cases hba : b = a
    · rw [hba, upd_same] at h; cases h
    · rw [ne b hba] at h; exact r.zd b zb h
theorem spI_keys {i : Nat} {σ : L2.St} {H : Hp} {R : L2.It → Hp → Prop} (h : SpI T W (keysS i) σ H R) : iKeysS i σ H R := by
  obtain ⟨Z, ρ, r, h⟩ := h
  have e0 : keysS i ρ = match gt ρ i with
    | .da .o (.dct false ks vs) => match D.ints ks with
      | some _ => .ok ks (ρ.set i (.da .s (.dct false ks vs)))
      | none => .no
    | _ => .no := rfl
  cases hg : gt ρ i with
  | un => rw [e0, hg] at h; exact h.elim
  | xc _ => rw [e0, hg] at h; exact h.elim
  | da w d =>
    rw [e0, hg] at h
    cases w with
    | s => exact h.elim
    | l => exact h.elim
    | o =>
      cases d with
      | dct t ks vs =>
        cases t with
        | true => exact h.elim
        | false =>
          replace h : Pst T W (RI T) OB N0 Z H ρ σ (match D.ints ks with
            | some _ => .ok ks (ρ.set i (.da .s (.dct false ks vs)))
            | none => .no) R := h
          cases hi : D.ints ks with
          | none => rw [hi] at h; exact h.elim
          | some is =>
            rw [hi] at h
            have q := r.sl i
            rw [hg] at q
            obtain ⟨a, e1, hw⟩ := q
            cases hw with
            | dK hH hr =>
              rename_i kvs
              have hown : Own ρ σ i a := ⟨⟨.o, _, hg, by decide⟩, e1⟩
              refine ⟨a, kvs, gv_some e1, hH, fun o => ?_⟩
              replace h : Pst T W (RI T) OB N0 Z H ρ σ (.ok (kvs.map fun kv => kD kv.1) (ρ.set i (.da .s (.dct false (kvs.map fun kv => kD kv.1) vs)))) R := h
              obtain ⟨Z', g, q⟩ := frz_slot r hg e1
              have hza : Z' a := Rp.dz q
              obtain ⟨r2, l2⟩ := lock_go (o := o) g.rel hza hH
              have g2 : Go T N0 Z H ρ σ Z' (upd H a (.frz o (.dK kvs))) (ρ.set i (.da .s (.dct false (kvs.map fun kv => kD kv.1) vs))) N0 := by
                refine ⟨⟨fun b u hb nb => ?_, fun b hb => ?_, g.nx.zm, g.nx.zn, g.nx.on⟩, r2, g.df⟩
                · rw [upd_ne (fun z => nb (.inl ⟨i, by rw [z]; exact hown⟩))]; exact hb
                · by_cases hba : b = a
                  · rw [hba, upd_same] at hb; cases hb
                  · rw [upd_ne hba] at hb; exact hb
              refine h (Itk a o kvs) _ Z' (g2.weak fun _ z => z.elim) ?_
              refine ⟨_, _, by rw [List.length_map]; exact walk_keys, fun Z2 H2 l => ⟨l.fz a _ _ hza upd_same, fun j x H'' d e y => ?_⟩⟩
              obtain ⟨rfl, k, v, e2, rfl⟩ := y
              rw [List.getElem?_map, e2] at e
              have e3 := ints_get (i := j) (d := kD k) hi (by rw [List.getElem?_map, e2]; rfl)
              have e : some (kD k) = some d := e
              cases e
              obtain ⟨n, e3⟩ := e3
              refine ⟨.inl rfl, ?_⟩
              cases k with
              | inl m => exact .int m
              | inr y => cases e3
      | _ => exact h.elim
end
end G
set_option maxHeartbeats 4000000
/-! F23: dict comprehensions. -/
namespace G
open PySem L2 PySem.Spec PyProof.Rows
theorem dc_it {J : L2.It} {n : Nat} {G : Hp → Prop} {Y : Nat → Hp → V → Hp → Prop} (w : Walk J n G Y) {g : TG} {tt : TT} {tk tv : TE} {vs : List Nat} {σ : L2.St} {H1 : Hp} {D : Addr} {Qd : Hp → Prop} (Pv : Nat → Hp → Prop) (h0 : Pv 0 (upd H1 D (.dK []))) (hG : ∀ i H, i ≤ n → Pv i H → G H)
    (hs : ∀ i x H H', i < n → Pv i H → Y i H x H' → g x (wipe σ vs) H' fun σ2 H2 => wipe σ2 vs = wipe σ vs ∧ tt σ2 H2 fun b H3 =>
      if b = true then tk σ2 H3 fun y H4 => tv σ2 H4 fun z H5 => ∃ kvs k, y = kV k ∧ H5 D = some (.dK kvs) ∧ kvs.length < sizeLine ∧ Pv (i + 1) (upd H5 D (.dK (putK kvs k z))) else Pv (i + 1) H3) (hd : ∀ H, Pv n H → Qd H) :
    ∃ W : Nat → Nat → Hp → Prop, (∃ m, W 0 m (upd H1 D (.dK []))) ∧ ∀ i m H, W i m H →
      (J.stop i H ∧ Qd H) ∨ (J.go i H ∧ ∃ Nx : Hp → Prop, (∀ H', Nx H' → ∃ m', m' < m ∧ W (i + 1) m' H') ∧ ∀ x H', J.yld i H x H' → g x (wipe σ vs) H' fun σ2 H2 => wipe σ2 vs = wipe σ vs ∧ tt σ2 H2 fun b H3 =>
        if b = true then tk σ2 H3 fun y H4 => tv σ2 H4 fun z H5 => ∃ kvs k, y = kV k ∧ H5 D = some (.dK kvs) ∧ kvs.length < sizeLine ∧ Nx (upd H5 D (.dK (putK kvs k z))) else Nx H3) := by
  refine ⟨fun i m H => m = n - i ∧ i ≤ n ∧ Pv i H, ⟨n, by simp, Nat.zero_le _, h0⟩, ?_⟩
  rintro i m H ⟨rfl, hi, p⟩
  have q := hG i H hi p
  by_cases hlt : i < n
  · refine .inr ⟨w.goes i H hlt q, Pv (i + 1), fun H' p' => ⟨n - (i + 1), by omega, rfl, hlt, p'⟩, fun x H' y => hs i x H H' hlt p (w.yields i H x H' hlt q y)⟩
  · have e : i = n := by omega
    subst e
    exact .inl ⟨w.stops H q, hd H p⟩
section
variable {T : Tb} {W : WX} {Z Z' Z'' : Addr → Prop} {H H' H'' : Hp} {ρ ρ' ρ'' : List En} {σ σ' σ'' : L2.St} {P : Addr → Prop} {x y : V} {d e : D} {Q : VK}
theorem Lt.mut' {a : Addr} {u o : HO} (hm : Mo u) (hz : ¬ Z a) (ha : H a = some u) : Lt T Z H Z (upd H a o) := by
  have ne : ∀ b, Z b → b ≠ a := fun b h e => hz (by rw [← e]; exact h)
  refine ⟨fun _ h => h, fun b u h q => ?_, fun b o u h q => by rw [upd_ne (ne b h)]; exact q, fun b ys q => ?_, fun v d h => ?_⟩
  · rcases q with q | ⟨o', q⟩
    · exact .inl (by rw [upd_ne (ne b h)]; exact q)
    · exact .inr ⟨o', by rw [upd_ne (ne b h)]; exact q⟩
  · rw [upd_ne (fun e => by rw [e, ha] at q; cases q; exact hm)]
    exact q
  · exact Rp.stay (O := fun b => b = a) ⟨fun b o' h n => by rw [upd_ne n]; exact h, fun _ h => h⟩ (fun b e => by rw [e]; exact hz) (fun b e => by rw [e]; exact ⟨_, ha, hm⟩) h
theorem Rel.mut' {a : Addr} {u o : HO} (r : Rel T Z ρ σ H) (hm : Mo u) (hz : ¬ Z a) (ha : H a = some u) (no : ¬ Os ρ σ a) : Rel T Z ρ σ (upd H a o) := by
  refine ⟨r.len, fun j => (r.sl j).stay (O := fun b => b = a) ⟨fun b o' h n => by rw [upd_ne n]; exact h, fun _ h => h⟩ (fun b e => by rw [e]; exact hz) (fun b e => by rw [e]; exact ⟨_, ha, hm⟩) fun w d b h1 h2 h3 h4 => ?_, r.sep, r.zs, fun b h => ?_⟩
  · exact no ⟨j, ⟨w, d, h1, h2⟩, by rw [h3, h4]⟩
  · by_cases e : b = a
    · rw [e, upd_same]; exact fun z => nomatch z
    · rw [upd_ne e]; exact r.zd b h
theorem Tn.app' {vs : List Nat} {Z1 : Addr → Prop} {H1 : Hp} {ρ1 : List En} {L : Addr} {u o : HO} (hm : Mo u) (t : Tn T vs Z1 H1 ρ1 σ L Z H ρ) (r1 : Rel T Z1 ρ1 σ H1) (hL : H L = some u) : Tn T vs Z1 H1 ρ1 σ L Z (upd H L o) ρ := by
  refine ⟨t.rel.mut' hm t.own.2 hL t.own.1, t.lt.trans (Lt.mut' hm t.own.2 hL), t.nx.trans (Nx.mut (.inr (.inr rfl)) (by rw [hL]; exact fun z => nomatch z)), fun a ha => ?_, t.own, t.new, t.df⟩
  obtain ⟨h1, h2, h3⟩ := t.hid a ha
  refine ⟨h1, h2, ?_⟩
  obtain ⟨v, _, hv⟩ := ha
  obtain ⟨u, e, _⟩ := r1.osH ⟨v, hv⟩
  rw [upd_ne (fun q => by rw [q, t.new] at e; cases e)]
  exact h3
/-- a key, read at the end -/
theorem key_of {w : V} {xv : Vl} {o : Bool} (r : Rel T Z ρ σ H) (hv : VlR T Z H σ ρ w xv) (h : esc xv ρ = .ok (o, d) ρ') (hk : isKey d = true) : ∃ k, w = kV k ∧ d = kD k := by
  obtain ⟨Z', g, q⟩ := escf_ok r hv h
  cases q with
  | int i => exact ⟨.inl i, rfl, rfl⟩
  | str h => exact ⟨.inr _, rfl, rfl⟩
  | _ => cases hk
theorem putAll_nil {ks vs : List D} : putAll ks vs [] = (ks, vs) := rfl
theorem clp2_cons {f : D → List En → Rs (Option (D × D))} {x : D} {xs : List D} {ρ : List En} : clp2 f (x :: xs) ρ = (f x ρ).bd fun r ρ1 => (clp2 f xs ρ1).bd fun ys ρ2 => .ok (match r with
    | none => ys
    | some y => y :: ys) ρ2 := rfl
theorem putK_len {kvs : List (Key × V)} {k : Key} {v : V} : (putK kvs k v).length ≤ kvs.length + 1 := by
  unfold putK
  split
  · rw [List.length_map]; exact Nat.le_succ _
  · rw [List.length_append]; exact Nat.le_refl _
theorem sp_dcomp {vs is : List Nat} {fi : List En → Rs (List D)} {fb : D → List En → Rs Unit} {ft : List En → Rs Bool} {fk fv : List En → Rs Vl} (his : ∀ j, j ∈ is → j ∈ vs) {σ : L2.St} {H : Hp} {Q : VK}
    (h : Sp T W (fun ρ => (fi ρ).bd fun xs ρ1 => (nox (clp2 (fun x ρ2 => (fb x ρ2).bd fun _ ρ3 => (ft ρ3).bd fun c ρ4 =>
      if c then (fk ρ4).bd fun y ρ5 => (fv ρ5).bd fun z ρ6 => (esc y ρ6).bd fun d ρ7 => (esc z ρ7).bd fun e ρ8 => .ok (some (d.2, e.2)) (wp vs ρ8) else .ok none (wp vs ρ4)) xs (wp vs ρ1))).bd fun ys ρ7 =>
      if szOk ys.length && ys.all (fun p => isKey p.1) then .ok (.da true (.dct false (putAll [] [] ys).1 (putAll [] [] ys).2)) (bk vs ρ1 ρ7) else .no) σ H Q) :
    tDc (SpI T W fi) (SpG T W0 is fb) (SpT T W0 ft) (Sp T W0 fk) (Sp T W0 fv) vs σ H Q := by
  obtain ⟨Z, ρ, r, h⟩ := h
  refine ⟨Z, ρ, r, Pst.bind h fun J H1 ds ρ1 Z1 _ g hsrc h1 => ?_⟩
  obtain ⟨G, Y, wk, hl⟩ := hsrc
  intro L hL
  generalize hf : (fun (x : D) (ρ2 : List En) => (fb x ρ2).bd fun _ ρ3 => (ft ρ3).bd fun c ρ4 =>
      if c = true then (fk ρ4).bd fun y ρ5 => (fv ρ5).bd fun z ρ6 => (esc y ρ6).bd fun d ρ7 => (esc z ρ7).bd fun e ρ8 => Rs.ok (some (d.2, e.2)) (wp vs ρ8) else .ok none (wp vs ρ4)) = f at h1
  cases e0 : nox (clp2 f ds (wp vs ρ1)) with
  | no => rw [e0] at h1; exact h1.elim
  | ex x ρ2 =>
    exfalso
    revert e0
    cases clp2 f ds (wp vs ρ1) <;> exact fun z => nomatch z
  | ok ys0 ρ70 =>
    rw [e0] at h1
    have e0 := nox_ok_inv e0
    obtain ⟨hz, h1⟩ := Pst.ifz (show Pst T W (VlR T) Ov _ Z1 H1 ρ1 σ (if (szOk ys0.length && ys0.all (fun p => isKey p.1)) = true then .ok (.da true (.dct false (putAll [] [] ys0).1 (putAll [] [] ys0).2)) (bk vs ρ1 ρ70) else .no) Q from h1)
    rw [Bool.and_eq_true] at hz
    obtain ⟨hz, hks⟩ := hz
    refine dc_it wk (fun i H' => ∃ Z' ρ' kvs ds' ys, Tn T vs Z1 H1 ρ1 σ L Z' H' ρ' ∧ H' L = some (.dK kvs) ∧ RpL T Z' H' (kvs.map (·.2)) ds' ∧ clp2 f (ds.drop i) ρ' = .ok ys ρ70 ∧ kvs.length + ys.length ≤ ys0.length ∧ ys.all (fun p => isKey p.1) = true ∧
      putAll [] [] ys0 = putAll (kvs.map fun kv => kD kv.1) ds' ys) ?_ ?_ ?_ ?_
    · exact ⟨Z1, wp vs ρ1, [], [], ys0, Tn.start g.rel hL, upd_same, .nil, e0, by simp, hks, rfl⟩
    · rintro i H' _ ⟨Z', ρ', acc, ds', ys, t, _⟩
      exact (hl Z' H' t.lt).1
    · rintro i x H' H'' hlt ⟨Z', ρ', kvs, ds', ys, t, ha, hr, hc, hn, hk, hy⟩ y
      have hd : ds[i]? = some ds[i] := List.getElem?_eq_getElem hlt
      obtain ⟨q1, q2⟩ := (hl Z' H' t.lt).2 i x H'' _ hd y
      have g1 := yld_go t.rel q1
      rw [List.drop_eq_getElem_cons hlt, clp2_cons] at hc
      obtain ⟨ro, ρa, ea, hc⟩ := Rs.bd_eq_ok hc
      obtain ⟨ys', ρb, eb, hc⟩ := Rs.bd_eq_ok hc
      cases hc
      rw [← hf] at ea
      obtain ⟨u, ρ3, e3, ea⟩ := Rs.bd_eq_ok (show ((fb ds[i] ρ').bd fun _ ρ3 => (ft ρ3).bd fun c ρ4 =>
        if c = true then (fk ρ4).bd fun y ρ5 => (fv ρ5).bd fun z ρ6 => (esc y ρ6).bd fun d ρ7 => (esc z ρ7).bd fun e ρ8 => Rs.ok (some (d.2, e.2)) (wp vs ρ8) else .ok none (wp vs ρ4)) = .ok ro ρa from ea)
      obtain ⟨c, ρ4, e4, ea⟩ := Rs.bd_eq_ok ea
      refine ⟨Z', ρ', ds[i], g1.rel, q2, ?_⟩
      rw [e3]
      intro σ2 H2 Z2 g2
      have g2' := g1.t.trans g2
      have hL0 : H' L ≠ none := by rw [ha]; exact fun z => nomatch z
      refine ⟨(t.step g.rel hL0 g2' his).2.1, Z2, ρ3, g2.rel, ?_⟩
      rw [e4]
      intro b H3 Z3 g3 hb
      have hb : b = c := hb
      subst hb
      have g3' := g2'.trans g3.t
      cases b with
      | false =>
        rw [if_neg Bool.false_ne_true]
        have ea : Rs.ok none (wp vs ρ4) = .ok ro ρa := ea
        cases ea
        obtain ⟨t4, _, k4⟩ := t.step g.rel hL0 g3' his
        exact ⟨Z3, _, kvs, ds', ys', t4, by rw [k4]; exact ha, (g3'.nx.lt t.rel.ok0).rpL hr, eb, hn, hk, hy⟩
      | true =>
        rw [if_pos rfl]
        have ea : ((fk ρ4).bd fun y ρ5 => (fv ρ5).bd fun z ρ6 => (esc y ρ6).bd fun d ρ7 => (esc z ρ7).bd fun e ρ8 => Rs.ok (some (d.2, e.2)) (wp vs ρ8)) = .ok ro ρa := ea
        obtain ⟨kv, ρ5, e5, ea⟩ := Rs.bd_eq_ok ea
        obtain ⟨zv, ρ6, e6, ea⟩ := Rs.bd_eq_ok ea
        obtain ⟨⟨o1, d1⟩, ρ7, e7, ea⟩ := Rs.bd_eq_ok ea
        obtain ⟨⟨o2, d2⟩, ρ8, e8, ea⟩ := Rs.bd_eq_ok ea
        cases ea
        refine ⟨Z3, ρ4, g3.rel, ?_⟩
        rw [e5]
        intro w H4 Z4 g4 hw
        have g4' := g3'.trans (g4.weak (F := N0) fun _ z => z.elim).t
        refine ⟨Z4, ρ5, g4.rel, ?_⟩
        rw [e6]
        intro v H5 Z5 g5 hv
        have hw5 := hw.step g5 g4.rel.ok0 fun _ _ z => z
        have hk' : isKey d1 = true ∧ ys'.all (fun p => isKey p.1) = true := by
          have hk : ((d1, d2) :: ys').all (fun p => isKey p.1) = true := hk
          rw [List.all_cons, Bool.and_eq_true] at hk
          exact hk
        obtain ⟨k, rfl, rfl⟩ := key_of g5.rel hw5 e7 hk'.1
        have h7 : ∃ Z7, Go T (Ov v zv) Z5 H5 ρ6 σ2 Z7 H5 ρ7 (Ov v zv) ∧ VlR T Z7 H5 σ2 ρ7 v zv := by
          obtain ⟨Z7, g7, _⟩ := escf_ok g5.rel hw5 e7
          have nk : ∀ a, Ov (kV k) kv a → False := fun a z => by
            obtain ⟨_, z⟩ := z
            cases k <;> cases z
          have g7 := g7.pre (Q := N0) fun a z => (nk a z).elim
          exact ⟨Z7, ((g7.frame (F := Ov v zv)).pre fun a z => z.elim (fun z => z.elim) id).weak fun a z => .inr z, hv.step g7 (g5.rel.okO.or Ok.n0) fun _ _ z => z⟩
        obtain ⟨Z7, g7, hv7⟩ := h7
        obtain ⟨Z8, g8, hv8⟩ := escf_ok g7.rel hv7 e8
        have g8' := ((g4'.trans g5.t).trans g7.t).trans g8.t
        obtain ⟨t6, _, k6⟩ := t.step g.rel hL0 g8' his
        rw [ha] at k6
        have hlen : ((kD k, d2) :: ys').length = ys'.length + 1 := rfl
        have hn : kvs.length + (ys'.length + 1) ≤ ys0.length := hn
        have hsz : kvs.length < sizeLine := by
          have := szOk_le hz
          omega
        have l7 := Lt.mut' (T := T) (o := .dK (putK kvs k v)) (u := .dK kvs) trivial t6.own.2 k6
        obtain ⟨p1, p2⟩ := put_ok (g := kD) kD_eqb k (l7.rpL ((g8'.nx.lt t.rel.ok0).rpL hr)) (l7.rp _ _ hv8)
        refine ⟨kvs, k, rfl, k6, hsz, Z8, _, putK kvs k v, (putD (kvs.map fun kv => kD kv.1) ds' (kD k) d2).2, ys', t6.app' (u := .dK kvs) trivial g.rel k6, upd_same, p2, eb, ?_, hk'.2, ?_⟩
        · have := putK_len (kvs := kvs) (k := k) (v := v)
          omega
        · rw [hy, ← p1]
          rfl
    · rintro H' ⟨Z', ρ', kvs, ds', ys, t, ha, hr, hc, hn, hk, hy⟩
      rw [List.drop_length] at hc
      have hc : Rs.ok [] ρ' = .ok ys ρ70 := hc
      cases hc
      rw [putAll_nil] at hy
      rw [hy] at h1
      obtain ⟨g8, n8⟩ := t.done (P := fun a => OB J ds a ∨ N0 a) (E := Ov (.ref L) (.da true (.dct false (kvs.map fun kv => kD kv.1) ds'))) g.rel fun a z => (V.ref.inj z.2).symm
      exact h1 (.ref L) H' Z' g8 ⟨L, rfl, .dK ha hr, t.own.2, n8⟩
end
end G
set_option maxHeartbeats 4000000
/-! F24: raise C(); try .. except C as n; isinstance of the exception held. -/
namespace G
open PySem L2 PySem.Spec PyProof.Rows
/-- X() -/
theorem pmk_own0 {X : Cx} {C : Addr} {bmB : List Value} {B newId initId : String} {x : Str} {p pos : Pos} (F : ExcBaseFacts B newId initId bmB) (q : PySem.W.excIn X.K C bmB newId = true) (gC : X.mg x = some (.ref C)) (kC : PySem.W.keepIn X.K (.ref C) = true) (r : Raises X (.ref C)) (hg : Gl X x)
    (hdb : (x == ("__debug__" : Str)) = false := by decide) : PMk X (.Call (.Name x p) [] [] pos) (fun _ H Q => Q (.ref C) none H) := by
  intro pins s σ H Q I h
  refine wpAny_Call_Name_kw (ld_glob I hg gC ?_ hdb)
  refine PySem.W.callWith_K0 I.kIn kC ?_
  show wpAny _ _ (call (.ref C) []) _ _ _
  obtain ⟨bm, N, nm, qn, bs, hdct, sn, sub, ab, col, dd, k0, k1, k2, k3, k5, mN, hC, hN, hni, T⟩ := exc_obj I.kIn q
  refine wpAny_call_exc_subT F T hC hN hni (fun h' e hm => ?_) (by show 0 ≤ sizeLine; exact Nat.zero_le _)
  exact mk_of I hm r h (I.hok.gone hm.new)
section
variable {T : Tb} {W : WX} {Z Z' Z'' : Addr → Prop} {H H' H'' : Hp} {ρ ρ' ρ'' : List En} {σ σ' σ'' : L2.St} {P : Addr → Prop} {x y : V} {d e : D} {Q : VK} {Dn : Ends}
/-- the tables with an exception held -/
def Tb.hold (T : Tb) (a : Addr) (x : Xc) : Tb := { T with px := fun b y => b = a ∧ y = x }
mutual
theorem Rp.hold {T' : Tb} (hf : T'.fa = T.fa) : ∀ {v : V} {d : D}, Rp T Z H v d → Rp T' Z H v d
  | _, _, .non => .non
  | _, _, .bl b => .bl b
  | _, _, .int i => .int i
  | _, _, .str h => .str h
  | _, _, .tup h1 h2 => .tup h1 (RpL.hold hf h2)
  | _, _, .lst z h1 h2 => .lst z h1 (RpL.hold hf h2)
  | _, _, .dK z h1 h2 => .dK z h1 (RpL.hold hf h2)
  | _, _, .dT z h1 h2 => .dT z h1 (RpL.hold hf h2)
  | _, _, .fn h => .fn (by rw [hf]; exact h)
theorem RpL.hold {T' : Tb} (hf : T'.fa = T.fa) : ∀ {vs : List V} {ds : List D}, RpL T Z H vs ds → RpL T' Z H vs ds
  | _, _, .nil => .nil
  | _, _, .cons h1 h2 => .cons (Rp.hold hf h1) (RpL.hold hf h2)
end
theorem Rw.hold {T' : Tb} (hf : T'.fa = T.fa) {a : Addr} (h : Rw T Z H a d) : Rw T' Z H a d := by
  cases h with
  | lst h1 h2 => exact .lst h1 (h2.hold hf)
  | dK h1 h2 => exact .dK h1 (h2.hold hf)
  | dT h1 h2 => exact .dT h1 (h2.hold hf)
theorem VlR.hold {T' : Tb} (hf : T'.fa = T.fa) {v : V} {xv : Vl} (h : VlR T Z H σ ρ v xv) : VlR T' Z H σ ρ v xv := by
  cases xv with
  | vw i => exact h
  | da o d =>
    cases o with
    | false => exact Rp.hold hf h
    | true =>
      obtain ⟨a, e, q, nz, no⟩ := h
      exact ⟨a, e, q.hold hf, nz, no⟩
theorem noXc_at {i : Nat} {xx : Xc} (h : noXc ρ = true) : gt ρ i ≠ .xc xx := fun q => by
  unfold noXc at h
  rw [List.all_eq_true] at h
  unfold gt at q
  cases e : ρ[i]? with
  | none => rw [e] at q; cases q
  | some en =>
    rw [e] at q
    have q : en = .xc xx := q
    subst q
    exact absurd (h _ (List.mem_of_getElem? e)) Bool.false_ne_true
theorem Rel.hold {T' : Tb} (hf : T'.fa = T.fa) (r : Rel T Z ρ σ H) (hx : ∀ i xx a, gt ρ i = .xc xx → gv σ i = some (.ref a) → T.px a xx → T'.px a xx) : Rel T' Z ρ σ H := by
  refine ⟨r.len, fun i => ?_, r.sep, r.zs, r.zd⟩
  have q := r.sl i
  cases e : gt ρ i with
  | un => trivial
  | xc xx =>
    rw [e] at q
    obtain ⟨a, e1, q⟩ := q
    exact ⟨a, e1, hx i xx a e e1 q⟩
  | da w d =>
    rw [e] at q
    cases w with
    | s => obtain ⟨v, e1, q⟩ := q; exact ⟨v, e1, q.hold hf⟩
    | o => obtain ⟨a, e1, q⟩ := q; exact ⟨a, e1, q.hold hf⟩
    | l => obtain ⟨a, e1, q⟩ := q; exact ⟨a, e1, q.hold hf⟩
theorem gv_set_ne {i j : Nat} {o : Option V} (h : j ≠ i) : gv (σ.set i o) j = gv σ j := by
  unfold gv
  rw [List.getElem?_set_ne (Ne.symm h)]
/-- a slot (not a lent one) is given something that owns nothing -/
theorem own_clear {i j : Nat} {en : En} {o : Option V} {a : Addr} (hn : ∀ w d, en = .da w d → w = .s) (h : Own (ρ.set i en) (σ.set i o) j a) (hl : ρ.length = σ.length) : j ≠ i ∧ Own ρ σ j a := by
  obtain ⟨⟨w, d, e, hw⟩, hv⟩ := h
  have hj : j ≠ i := fun q => by
    subst q
    rw [gt_set] at e
    by_cases c : j < ρ.length
    · rw [if_pos ⟨rfl, c⟩] at e
      exact hw (hn w d e)
    · rw [if_neg fun z => c z.2] at e
      exact c (gt_lt e)
  rw [gt_set, if_neg fun z => hj z.1.symm] at e
  rw [gv_set_ne hj] at hv
  exact ⟨hj, ⟨w, d, e, hw⟩, hv⟩
theorem Rel.clear {i : Nat} {en : En} {o : Option V} (r : Rel T Z ρ σ H) (hn : ∀ w d, en = .da w d → w = .s) (hs : i < σ.length → SlR T Z H o en) : Rel T Z (ρ.set i en) (σ.set i o) H := by
  refine ⟨by simp [r.len], fun j => ?_, fun j k a h1 h2 => r.sep j k a (own_clear hn h1 r.len).2 (own_clear hn h2 r.len).2, fun a ⟨j, h⟩ => r.zs a ⟨j, (own_clear hn h r.len).2⟩, r.zd⟩
  by_cases hj : j = i
  · subst hj
    by_cases c : j < ρ.length
    · rw [gt_set, if_pos ⟨rfl, c⟩]
      unfold gv
      rw [List.getElem?_set_self (by rw [← r.len]; exact c)]
      exact hs (by rw [← r.len]; exact c)
    · have : gt (ρ.set j en) j = .un := by
        unfold gt
        rw [List.getElem?_eq_none (by rw [List.length_set]; omega)]
        rfl
      rw [this]
      trivial
  · rw [gt_set, if_neg fun z => hj z.1.symm, gv_set_ne hj]
    exact r.sl j
theorem nox_inv {r : Rs Fl} : (∃ f ρ1, r = .ok f ρ1) ∨ nox r = .no := by
  cases r with
  | ok f ρ1 => exact .inl ⟨f, ρ1, rfl⟩
  | ex x ρ1 => exact .inr rfl
  | no => exact .inr rfl
/-- try: b / except C as n: h -/
theorem ss_try {i c : Nat} {cv : Value} {sub : Nat → Nat → Bool} {fb : List En → Rs Fl} {fh : List En → Rs Fl} {σ : L2.St} {H : Hp}
    (hp : ∀ a xx, ¬ T.px a xx) (hsub : ∀ k a, T.ca k = some a → PySem.W.exmOne T.K (.ref a) cv = some (sub k c))
    (h : SpS T W (fun ρ => catch' (fb ρ) sub c fun x ρ1 => match gt ρ1 i with
      | .da .l _ => .no
      | _ => (nox (fh (ρ1.set i (.xc x)))).bd fun r ρ2 => if noXc (ρ2.set i .un) then .ok r (ρ2.set i .un) else .no) Dn σ H) :
    SpS T (wAs T.K cv i (fun a cls dd => fun D σ H => dd = none ∧ ∃ xx C, cls = .ref C ∧ T.ca xx.c = some C ∧ xx.fs = [] ∧ SpS (T.hold a xx) W0 fh D σ H) W Dn) fb Dn σ H := by
  obtain ⟨Z, ρ, r, h⟩ := h
  refine ⟨Z, ρ, r, ?_⟩
  replace h : PstS T W N0 Z H ρ σ (catch' (fb ρ) sub c fun x ρ1 => match gt ρ1 i with
      | .da .l _ => .no
      | _ => (nox (fh (ρ1.set i (.xc x)))).bd fun r ρ2 => if noXc (ρ2.set i .un) then .ok r (ρ2.set i .un) else .no) Dn := h
  cases e : fb ρ with
  | no => rw [e] at h; exact h.elim
  | ok f ρ1 =>
    rw [e] at h
    cases f with
    | nx => exact h
    | bk => exact h
    | ct => exact h
    | rt o d => exact h
  | ex xx ρ1 =>
    rw [e] at h
    intro cls dd σ1 H1 Z1 g hx
    obtain ⟨hfs, rfl, C, hC, rfl⟩ := id hx
    refine ⟨_, hsub _ _ hC, fun hb a ha => ?_, fun hb => ?_⟩
    · have h : PstS T W N0 Z H ρ σ (if sub xx.c c = true then (match gt ρ1 i with
        | .da .l _ => Rs.no
        | _ => (nox (fh (ρ1.set i (.xc xx)))).bd fun r ρ2 => if noXc (ρ2.set i .un) then .ok r (ρ2.set i .un) else .no) else .ex xx ρ1) Dn := h
      rw [if_pos hb] at h
      have nl : ∀ d, gt ρ1 i ≠ .da .l d := fun d q => by rw [q] at h; exact h
      have h : PstS T W N0 Z H ρ σ ((nox (fh (ρ1.set i (.xc xx)))).bd fun r ρ2 => if noXc (ρ2.set i .un) then .ok r (ρ2.set i .un) else .no) Dn := by
        cases q : gt ρ1 i with
        | un => rw [q] at h; exact h
        | xc _ => rw [q] at h; exact h
        | da w d =>
          rw [q] at h
          cases w with
          | l => exact (nl d q).elim
          | s => exact h
          | o => exact h
      have h1 := PstS.step h g
      have hT : (T.hold a xx).fa = T.fa := rfl
      -- no exception may be held yet
      have hn0 : ∀ w d, (En.xc xx) = .da w d → w = .s := fun _ _ z => nomatch z
      have hun : ∀ w d, (En.un) = .da w d → w = .s := fun _ _ z => nomatch z
      refine ⟨rfl, xx, C, rfl, hC, hfs, Z1, ρ1.set i (.xc xx), ?_, ?_⟩
      · exact (g.rel.hold hT fun j yy b _ _ q => (hp b yy q).elim).clear hn0 fun _ => ⟨a, rfl, rfl, rfl⟩
      · rcases nox_inv (r := fh (ρ1.set i (.xc xx))) with ⟨f, ρ2, e2⟩ | e2
        · rw [e2] at h1
          rw [e2]
          replace h1 : PstS T W N0 Z1 H1 ρ1 σ1 (if noXc (ρ2.set i .un) = true then .ok f (ρ2.set i .un) else .no) Dn := h1
          cases c0 : noXc (ρ2.set i .un) with
          | false => rw [c0] at h1; exact h1.elim
          | true =>
            rw [c0] at h1
            replace h1 : PstS T W N0 Z1 H1 ρ1 σ1 (.ok f (ρ2.set i .un)) Dn := h1
            have sub1 : ∀ b, Os (ρ1.set i (.xc xx)) (σ1.set i (some (.ref a))) b → Os ρ1 σ1 b := fun b ⟨j, q⟩ => ⟨j, (own_clear hn0 q g.rel.len).2⟩
            have key : ∀ (σ2 : L2.St) (H2 : Hp) (Z2 E : Addr → Prop), GoS (T.hold a xx) N0 Z1 H1 (ρ1.set i (.xc xx)) (σ1.set i (some (.ref a))) Z2 H2 ρ2 σ2 E → GoS T N0 Z1 H1 ρ1 σ1 Z2 H2 (ρ2.set i .un) (σ2.set i none) E ∧ ∀ b, Os (ρ2.set i .un) (σ2.set i none) b → Os ρ2 σ2 b := fun σ2 H2 Z2 E g2 => by
              have sub2 : ∀ b, Os (ρ2.set i .un) (σ2.set i none) b → Os ρ2 σ2 b := fun b ⟨j, q⟩ => ⟨j, (own_clear hun q g2.rel.len).2⟩
              refine ⟨⟨(g2.nx.pre fun b q => q.imp (sub1 b) id).weak fun b q => q.imp (sub2 b) id, ?_, fun j d hj => ?_⟩, sub2⟩
              · exact Rel.hold (T := T.hold a xx) (T' := T) rfl (g2.rel.clear hun fun _ => trivial) fun j yy b q _ _ => (noXc_at c0 q).elim
              · have hji : j ≠ i := fun z => by subst z; exact nl d hj
                have q1 : gt (ρ1.set i (.xc xx)) j = .da .l d := by rw [gt_set, if_neg fun z => hji z.1.symm]; exact hj
                obtain ⟨d', q2, q3⟩ := g2.lt j d q1
                refine ⟨d', by rw [gt_set, if_neg fun z => hji z.1.symm]; exact q2, ?_⟩
                rw [gv_set_ne hji, q3, gv_set_ne hji]
            cases f with
            | nx => exact fun σ2 H2 Z2 g2 => h1 _ H2 Z2 (key σ2 H2 Z2 _ g2).1
            | bk => exact fun σ2 H2 Z2 g2 => h1 _ H2 Z2 (key σ2 H2 Z2 _ g2).1
            | ct => exact fun σ2 H2 Z2 g2 => h1 _ H2 Z2 (key σ2 H2 Z2 _ g2).1
            | rt o d => exact fun v σ2 H2 Z2 g2 hv => h1 v _ H2 Z2 (key σ2 H2 Z2 _ g2).1 (VlR.move (VlR.hold (T := T.hold a xx) (T' := T) rfl hv) fun b q z => hv.nos b q ((key σ2 H2 Z2 _ g2).2 b z))
        · rw [e2] at h1
          exact h1.elim
    · replace h : PstS T W N0 Z H ρ σ (if sub xx.c c = true then (match gt ρ1 i with
        | .da .l _ => Rs.no
        | _ => (nox (fh (ρ1.set i (.xc xx)))).bd fun r ρ2 => if noXc (ρ2.set i .un) then .ok r (ρ2.set i .un) else .no) else .ex xx ρ1) Dn := h
      rw [if_neg (by rw [hb]; exact Bool.false_ne_true)] at h
      exact h _ _ σ1 H1 Z1 g hx
end
end G
set_option maxHeartbeats 4000000
/-! F25: isinstance of the exception held; methods; extend. -/
namespace G
open PySem L2 PySem.Spec PyProof.Rows
section
variable {T : Tb} {W : WX} {Z Z' Z'' : Addr → Prop} {H H' H'' : Hp} {ρ ρ' ρ'' : List En} {σ σ' σ'' : L2.St} {P : Addr → Prop} {x y : V} {d e : D} {Q : VK} {Dn : Ends}
variable {fa : List En → Rs Vl} {fs : List En → Rs (List Vl)}
theorem sp_isx {sub : Nat → Nat → Bool} {i c : Nat} {a D : Addr} {cV : V} {cv : Value} (hpx : ∀ b y, T.px b y → b = a ∧ T.ca y.c = some D) (hcv : ∀ u, RelV cV u → u = cv) (hs : ∀ k D, T.ca k = some D → PySem.W.kitOne T.K (.ref D) cv = some (sub k c))
    (h : Sp T W (isxS sub i c) σ H Q) : tCB (rIsE T.K D a) (tCons (tVar i) (tCons (tC cV) tNil)) σ H Q := by
  obtain ⟨Z, ρ, r, h⟩ := h
  have e0 : isxS sub i c ρ = match gt ρ i with
    | .xc x => .ok (.da false (.bl (sub x.c c))) ρ
    | _ => .no := rfl
  rw [e0] at h
  cases hg : gt ρ i with
  | un => rw [hg] at h; exact h.elim
  | da w d => rw [hg] at h; exact h.elim
  | xc xx =>
    rw [hg] at h
    have q := r.sl i
    rw [hg] at q
    obtain ⟨b, e1, q⟩ := q
    obtain ⟨rfl, hD⟩ := hpx b xx q
    exact ⟨.ref b, gv_some e1, cV, cv, _, rfl, hcv, hs _ _ hD, Pst.shr r (show Pst T W (VlR T) Ov N0 Z H ρ σ (.ok (.da false (.bl (sub xx.c c))) ρ) Q from h) (.bl _)⟩
/-! ### l.index(x), l.count(x), d.get(k), d.get(k, x) -/
def rCountD (K : PySem.W.Frag) : V → List V → Hp → VK → Prop := fun x xs H Q => ∃ (a : Addr) (y : V) (d : PyData) (ds : List PyData), x = V.ref a ∧ xs = [y] ∧ Dp K H (V.ref a) (.list ds) ∧ Dp K H y d ∧
  SeqAt.shaped (.list ds) = true ∧ SeqAt.shaped d = true ∧ Q (.int (ds.countP fun z => PyData.eqv z d : Nat)) H
theorem mt_countD {X : Cx} (hu : X.A.units + 65 < cLine) : MtR X "list.count" (rCountD X.K) := by
  intro pins s σ H x xs v us Q I rx rxs h
  obtain ⟨a, y, d, ds, rfl, rfl, hl, hy, sl, sd, q⟩ := h
  cases rx
  cases rxs with
  | cons ry rt =>
    rename_i uy ut
    cases rt
    obtain ⟨bs, r1⟩ := Dp.reads I d y uy hy ry
    have hxs : PyData.canLayAll0 ds = true := SeqAt.canLay_of_shaped sl
    have hroom : X.A.units + 1 + min (PyData.depthAll ds) d.depth < cLine := room_in_shaped sd hu
    cases hl with
    | lst hs ha =>
      obtain ⟨its, rv, ⟨⟨cls, dd, data, sls⟩, n, ho, hc, hdn, hdt⟩, hlen⟩ := I.list hs
      simp only at hc hdt
      subst hc hdt
      obtain ⟨as, h4⟩ := Dp.readsAll I ds _ its ha rv
      have hmap : its.map (SeqAt.readOf s.heap) = ds := SeqAt.readsAll_map ds its as hxs h4
      refine call_meets PySem.F.slot_list_count ⟨_, ho, rfl⟩ PySem.F.entry_list_count (PySem.F.args_list_count_2 _ _)
        (SeqAt.list_countAt a its.toArray n dd sls uy (fun u => PyData.eqv (SeqAt.readOf s.heap u) d)) ⟨ho, SeqAt.items_eqAt (vs := its.toArray) (show ReadsAll s.heap its.toArray.toList ds as from h4) r1 hxs (SeqAt.canLay_of_shaped sd) hroom, ?_⟩
      have ec : its.toArray.toList.countP (fun u => PyData.eqv (SeqAt.readOf s.heap u) d) = ds.countP fun z => PyData.eqv z d := by
        rw [← hmap, List.countP_map]
        rfl
      refine ⟨.int (ds.countP fun z => PyData.eqv z d : Nat), H, I.tok _, ⟨s.toks, ?_⟩, q⟩
      show Value.int ((its.toArray.toList.countP (fun u => PyData.eqv (SeqAt.readOf s.heap u) d) : Nat) : Int) s.toks = _
      rw [ec]
theorem count_pys : ∀ {ds : List D} {e : D}, D.eqOks ds = true → e.eqOk = true → (D.pys ds).countP (fun z => PyData.eqv z e.py) = ds.countP fun z => D.eqb z e
  | [], _, _, _ => rfl
  | d :: ds, e, h, he => by
    have h := Bool.and_eq_true_iff.mp (show (_ && _) = true from h)
    rw [show D.pys (d :: ds) = d.py :: D.pys ds from rfl, List.countP_cons, List.countP_cons, count_pys h.2 he, D.eqv_py d e h.1 he]
theorem count_ok {xs : List D} (r : Rel T Z ρ σ H) (hx : Vw T Z H x (.lst xs)) (hy : Vw T Z H y e) (h : P2 T W P Z H ρ σ (mtD .count (.lst xs) [e]) Q) : rCountD T.K x [y] H Q := by
  obtain ⟨c, h⟩ := p2_if (show P2 T W P Z H ρ σ (if (e.cmpOk && (D.lst xs).cmpOk) = true then some (false, .int (xs.countP fun y => D.eqb y e : Nat)) else none) Q from h)
  rw [Bool.and_eq_true] at c
  have c1 := (Bool.and_eq_true_iff.mp (show (_ && _) = true from c.1)).1
  have c2 := (Bool.and_eq_true_iff.mp (show (_ && _) = true from c.2)).1
  have hd := hx.dp c2
  obtain ⟨a, vs, rfl, _, _⟩ := hx.lst
  refine ⟨a, y, e.py, D.pys xs, rfl, rfl, hd, hy.dp c1, shaped_of hx c.2, shaped_of hy c.1, ?_⟩
  rw [count_pys c2 c1]
  exact Pst.shr r h (.int _)
theorem Vw.isL {v : V} {xs : List D} (h : Vw T Z H v (.lst xs)) : tyV T.K "list" v H := by
  obtain ⟨a, vs, rfl, h1, h2⟩ := h.lst
  exact .inl ⟨rfl, vs, .inl h1⟩
theorem Vw.isD {v : V} {t : Bool} {ks vs : List D} (h : Vw T Z H v (.dct t ks vs)) : ∃ a, v = .ref a ∧ IsD H a := by
  cases t with
  | false =>
    obtain ⟨a, kvs, rfl, h1, _⟩ := h.dK
    exact ⟨a, rfl, (.inl ⟨_, h1⟩ : IsD H a)⟩
  | true =>
    obtain ⟨a, kvs, rfl, h1, _⟩ := h.dT
    exact ⟨a, rfl, (.inr ⟨_, h1⟩ : IsD H a)⟩
theorem sp_mthL {m : Mt} {rr : V → List V → Hp → VK → Prop} (hm : ∀ d, mtK m d = true → ∃ xs, d = .lst xs) (hn : ∀ d ds, mtD m d ds ≠ none → ∃ xs e, d = .lst xs ∧ ds = [e])
    (hk : ∀ (P Z : Addr → Prop) (H : Hp) (ρ : List En) (σ : L2.St) (x y : V) (xs : List D) (e : D) (Q : VK), Rel T Z ρ σ H → Vw T Z H x (.lst xs) → Vw T Z H y e → P2 T W P Z H ρ σ (mtD m (.lst xs) [e]) Q → rr x [y] H Q)
    (h : Sp T W (fun ρ => (fa ρ).bd fun x ρ1 => if mtK m (rd x ρ1) then (fs ρ1).bd fun vs ρ2 => lift2 (mtD m (rd x ρ2) (vs.map fun v => rd v ρ2)) ρ2 else .no) σ H Q) : tBM T.K "list" rr (Sp T W fa) (SpA T W fs) σ H Q := by
  obtain ⟨Z, ρ, r, h⟩ := h
  refine ⟨Z, ρ, r, Pst.bind h fun v H1 x ρ1 Z1 _ g hv h1 => ?_⟩
  have q := hv.vw g.rel
  obtain ⟨c, h1⟩ := Pst.ifz h1
  obtain ⟨xs, e⟩ := hm _ c
  rw [e] at q
  refine ⟨q.isL, Z1, ρ1, g.rel, Pst.bind h1 fun vs H2 ys ρ2 Z2 _ g2 hvs h2 => ?_⟩
  have q2 := (hv.go g.rel g2).vw g2.rel
  have w2 := hvs.vw g2.rel
  have h2 : P2 T W _ Z2 H2 ρ2 σ (mtD m (rd x ρ2) (ys.map fun v => rd v ρ2)) Q := h2
  obtain ⟨o, d, e2⟩ := p2_none h2
  obtain ⟨xs2, e3, q3, q4⟩ := hn _ _ (by rw [e2]; exact fun z => nomatch z)
  rw [q4] at w2 h2
  rw [q3] at q2 h2
  obtain ⟨y, rfl, hy⟩ := w2.one
  exact hk _ _ _ _ _ _ _ _ _ _ g2.rel q2 hy h2
theorem sp_index (h : Sp T W (fun ρ => (fa ρ).bd fun x ρ1 => if mtK .index (rd x ρ1) then (fs ρ1).bd fun vs ρ2 => lift2 (mtD .index (rd x ρ2) (vs.map fun v => rd v ρ2)) ρ2 else .no) σ H Q) : tBM T.K "list" (rIndexD T.K) (Sp T W fa) (SpA T W fs) σ H Q :=
  sp_mthL (m := .index) (fun d h => by cases d <;> first | exact ⟨_, rfl⟩ | cases h) (fun d ds h => by
    cases d with
    | lst xs => match ds, h with
      | [], h => exact (h rfl).elim
      | [e], _ => exact ⟨xs, e, rfl, rfl⟩
      | _ :: _ :: _, h => exact (h rfl).elim
    | _ => exact (h rfl).elim) (fun _ _ _ _ _ _ _ _ _ _ r hx hy h => index_ok r hx hy h) h
theorem sp_count (h : Sp T W (fun ρ => (fa ρ).bd fun x ρ1 => if mtK .count (rd x ρ1) then (fs ρ1).bd fun vs ρ2 => lift2 (mtD .count (rd x ρ2) (vs.map fun v => rd v ρ2)) ρ2 else .no) σ H Q) : tBM T.K "list" (rCountD T.K) (Sp T W fa) (SpA T W fs) σ H Q :=
  sp_mthL (m := .count) (fun d h => by cases d <;> first | exact ⟨_, rfl⟩ | cases h) (fun d ds h => by
    cases d with
    | lst xs => match ds, h with
      | [], h => exact (h rfl).elim
      | [e], _ => exact ⟨xs, e, rfl, rfl⟩
      | _ :: _ :: _, h => exact (h rfl).elim
    | _ => exact (h rfl).elim) (fun _ _ _ _ _ _ _ _ _ _ r hx hy h => count_ok r hx hy h) h
variable {fb fc : List En → Rs Vl}
theorem get_shape {m : Mt} (hm : m = .get1 ∨ m = .get2) {d : D} {ds : List D} (h : mtD m d ds ≠ none) : ∃ t ks vs, d = .dct t ks vs := by
  rcases hm with rfl | rfl
  · cases d with
    | dct t ks vs => exact ⟨t, ks, vs, rfl⟩
    | _ => exact (h rfl).elim
  · cases d with
    | dct t ks vs => exact ⟨t, ks, vs, rfl⟩
    | _ => exact (h rfl).elim
theorem sp_get1 (h : Sp T W (fun ρ => (fa ρ).bd fun x ρ1 => if mtK .get1 (rd x ρ1) then ((fb ρ1).bd fun y ρ3 => .ok [y] ρ3).bd fun vs ρ2 => lift2 (mtD .get1 (rd x ρ2) (vs.map fun v => rd v ρ2)) ρ2 else .no) σ H Q) : tDGet1 (Sp T W fa) (Sp T W fb) σ H Q := by
  obtain ⟨Z, ρ, r, h⟩ := h
  refine ⟨Z, ρ, r, Pst.bind h fun v H1 x ρ1 Z1 _ g hv h1 => ?_⟩
  have q := hv.vw g.rel
  obtain ⟨c, h1⟩ := Pst.ifz h1
  have hd : ∃ t ks vs, rd x ρ1 = .dct t ks vs := by
    cases e : rd x ρ1 with
    | dct t ks vs => exact ⟨t, ks, vs, rfl⟩
    | _ => rw [e] at c; cases c
  obtain ⟨t, ks, vs, e⟩ := hd
  rw [e] at q
  obtain ⟨a, rfl, ha⟩ := q.isD
  rw [Rs.bd_assoc] at h1
  refine ⟨a, rfl, ha, Z1, ρ1, g.rel, Pst.bind h1 fun w H2 y ρ2 Z2 _ g2 hw h2 => ?_⟩
  have q2 := (hv.go g.rel g2).vw g2.rel
  have h2 : P2 T W _ Z2 H2 ρ2 σ (mtD .get1 (rd x ρ2) [rd y ρ2]) Q := h2
  obtain ⟨o, d, e2⟩ := p2_none h2
  obtain ⟨t2, ks2, vs2, q3⟩ := get_shape (.inl rfl) (d := rd x ρ2) (ds := [rd y ρ2]) (by rw [e2]; exact fun z => nomatch z)
  rw [q3] at q2 h2
  obtain ⟨a', e4, q5⟩ := get1_ok g2.rel q2 (hw.vw g2.rel) h2
  cases e4
  exact q5
theorem sp_get2 (h : Sp T W (fun ρ => (fa ρ).bd fun x ρ1 => if mtK .get2 (rd x ρ1) then ((fb ρ1).bd fun y ρ3 => (fc ρ3).bd fun z ρ4 => .ok [y, z] ρ4).bd fun vs ρ2 => lift2 (mtD .get2 (rd x ρ2) (vs.map fun v => rd v ρ2)) ρ2 else .no) σ H Q) : tDGet2 (Sp T W fa) (Sp T W fb) (Sp T W fc) σ H Q := by
  obtain ⟨Z, ρ, r, h⟩ := h
  refine ⟨Z, ρ, r, Pst.bind h fun v H1 x ρ1 Z1 _ g hv h1 => ?_⟩
  have q := hv.vw g.rel
  obtain ⟨c, h1⟩ := Pst.ifz h1
  have hd : ∃ t ks vs, rd x ρ1 = .dct t ks vs := by
    cases e : rd x ρ1 with
    | dct t ks vs => exact ⟨t, ks, vs, rfl⟩
    | _ => rw [e] at c; cases c
  obtain ⟨t, ks, vs, e⟩ := hd
  rw [e] at q
  obtain ⟨a, rfl, ha⟩ := q.isD
  rw [Rs.bd_assoc] at h1
  refine ⟨a, rfl, ha, Z1, ρ1, g.rel, Pst.bind h1 fun w H2 y ρ2 Z2 _ g2 hw h2 => ?_⟩
  rw [Rs.bd_assoc] at h2
  refine ⟨Z2, ρ2, g2.rel, Pst.bind h2 fun u H3 z ρ3 Z3 _ g3 hu h3 => ?_⟩
  have q2 := ((hv.go g.rel g2).go g2.rel g3).vw g3.rel
  have h3 : P2 T W _ Z3 H3 ρ3 σ (mtD .get2 (rd x ρ3) [rd y ρ3, rd z ρ3]) Q := h3
  obtain ⟨o, d, e2⟩ := p2_none h3
  obtain ⟨t2, ks2, vs2, q3⟩ := get_shape (.inr rfl) (d := rd x ρ3) (ds := [rd y ρ3, rd z ρ3]) (by rw [e2]; exact fun z => nomatch z)
  rw [q3] at q2 h3
  obtain ⟨a', e4, q5⟩ := get2_ok g3.rel q2 ((hw.go g2.rel g3).vw g3.rel) (hu.vw g3.rel) h3
  cases e4
  exact q5
/-- l.extend(e), e a new list -/
theorem ss_ext {i : Nat} (h : SpS T W (fun ρ => if isL i ρ then (fa ρ).bd fun v ρ1 => (match v with
    | .da true (.lst ys) => (appS i ys ρ1).bd fun _ ρ3 => .ok .nx ρ3
    | _ => .no) else .no) Dn σ H) : tDrop (tBM T.K "list" rExtend (tVar i) (tCons (Sp T W fa) tNil)) Dn σ H := by
  obtain ⟨Z, ρ, r, h⟩ := h
  cases c : isL i ρ with
  | false =>
    have h : PstS T W N0 Z H ρ σ (if isL i ρ = true then _ else .no) Dn := h
    rw [c] at h; exact h.elim
  | true =>
    have h : PstS T W N0 Z H ρ σ (if isL i ρ = true then (fa ρ).bd fun v ρ1 => (match v with
      | .da true (.lst ys) => (appS i ys ρ1).bd fun _ ρ3 => .ok .nx ρ3
      | _ => .no) else .no) Dn := h
    rw [c] at h
    obtain ⟨a, e1, hty⟩ := own_ty r c
    refine ⟨.ref a, gv_some e1, hty, Z, ρ, r, PstS.bind (show PstS T W N0 Z H ρ σ ((fa ρ).bd fun v ρ1 => (match v with
      | .da true (.lst ys) => (appS i ys ρ1).bd fun _ ρ3 => .ok .nx ρ3
      | _ => .no)) Dn from h) fun v H1 x ρ1 Z1 _ g hv h1 => ?_⟩
    cases x with
    | vw j => exact h1.elim
    | da o d =>
      cases o with
      | false => exact h1.elim
      | true =>
        cases d with
        | lst ys =>
          obtain ⟨b, rfl, hw, nz, no⟩ := hv
          cases hw with
          | lst hb hr =>
            rename_i zs
            have h2 : PstS T W _ Z1 H1 ρ1 σ ((appS i ys ρ1).bd fun _ ρ3 => .ok .nx ρ3) Dn := h1
            have key : ∀ (w : Ow) (xs : List D), gt ρ1 i = .da w (.lst xs) → w ≠ .s → rExtend (.ref a) [.ref b] H1 fun _ H3 => Dn.nx σ H3 := fun w xs hg hw => by
              have ea : appS i ys ρ1 = if szOk (xs.length + ys.length) then .ok () (ρ1.set i (.da w (.lst (xs ++ ys)))) else .no := by
                unfold appS
                generalize gt ρ1 i = q at hg
                subst hg
                cases w with
                | s => exact absurd rfl hw
                | o => rfl
                | l => rfl
              rw [ea] at h2
              obtain ⟨a', vs, e1', h1', h2'⟩ := own_list g.rel hg hw
              rw [e1] at e1'
              cases e1'
              cases cz : szOk (xs.length + ys.length) with
              | false => rw [cz] at h2; exact h2.elim
              | true =>
                rw [cz] at h2
                have hz := szOk_le cz
                refine ⟨a, b, vs, zs, rfl, rfl, h1', hb, by rw [h2'.length, hr.length]; exact hz, h2 σ _ Z1 ?_⟩
                exact ((mut_list g.rel hg hw e1 (h2'.app hr)).s).pre fun _ z => z.elim
            have e0 : ∀ en, gt ρ1 i = en → (∀ w xs, en ≠ .da w (.lst xs)) ∨ (∃ xs, en = .da .s (.lst xs)) → appS i ys ρ1 = .no := fun en hg hn => by
              unfold appS
              generalize gt ρ1 i = q at hg
              subst hg
              rcases hn with hn | ⟨xs, rfl⟩
              · split
                · rename_i e; exact absurd rfl (hn _ _)
                · rename_i e; exact absurd rfl (hn _ _)
                · rfl
              · rfl
            cases hg : gt ρ1 i with
            | un => rw [e0 _ hg (.inl fun _ _ z => nomatch z)] at h2; exact h2.elim
            | xc x => rw [e0 _ hg (.inl fun _ _ z => nomatch z)] at h2; exact h2.elim
            | da w d' =>
              cases d' with
              | lst xs =>
                by_cases hw : w = .s
                · subst hw
                  rw [e0 _ hg (.inr ⟨xs, rfl⟩)] at h2; exact h2.elim
                · exact key w xs hg hw
              | _ => rw [e0 _ hg (.inl fun _ _ z => nomatch z)] at h2; exact h2.elim
        | _ => exact h1.elim
end
end G
set_option maxHeartbeats 4000000
/-! F26: calls of a def held by a slot; a def by its body. -/
namespace G
open PySem L2 PySem.Spec PyProof.Rows
/-- of several defs that the slot may hold -/
def tCallAS (i : Nat) (S : Addr → Option L2.Sp) (E : L2.St → XK) (t : TA) : TE := fun σ H Q => ∃ f sp, σ[i]? = some (some (.ref f)) ∧ S f = some sp ∧ t σ H fun vs H1 => sp vs H1 Q (E σ)
theorem pe_callAS {X : Cx} {CX : CXT} {k i : Nat} {E : L2.St → XK} {x : Str} {p pos : Pos} {e : Expr} {es : List Expr} {t : TA} {S : Addr → Option L2.Sp}
    (A : ∀ f sp, S f = some sp → ∃ fd ps, FnOk X.prog X.w X.K X.mg X.base CX k f fd ps sp ∧ PySem.W.keepIn X.K (.ref f) = true ∧ Binds X.K fd ps []) (hr : Room k X.A) (hN : X.N[i]? = some x) (hv : Vis X.env.scope x) (hx : ∀ σ, PassesAt CX X σ (E σ)) (ha : PA X (e :: es) t)
    (hdb : (x == ("__debug__" : Str)) = false := by decide) (hcd : (x == ("__classdict__" : Str)) = false := by decide)
    (he : starEach (e :: es) X.env = (false, eval e X.env) :: starEach es X.env := by rfl) (hpl : (backTo pos (starEach es X.env)).any (·.1) = false := by rfl) : PE X (.Call (.Name x p) (e :: es) [] pos) (tCallAS i S E t) := by
  refine ⟨fun pins s σ H Q I h => ?_⟩
  obtain ⟨f, sp, hs, hS, ht⟩ := h
  obtain ⟨fd, ps, F, hk, hb⟩ := A f sp hS
  refine wpAny_Call_Name_kw (thn ((pe_var (pos := p) hN hv hdb hcd).run pins s σ H (fun v H1 => v = .ref f ∧ H1 = H) I ⟨.ref f, hs, rfl, rfl⟩) fun u s1 ⟨v, H1, I1, r1, q1⟩ => ?_)
  obtain ⟨rfl, rfl⟩ := q1
  cases r1
  refine PySem.W.callWith_K (h₀ := X.base) I.ok.mod.kin hk (thn (ha.run pos pins s1 σ _ _ I1 ht) fun us s2 ⟨vs, H2, I2, r, q⟩ => ⟨I2.kIn, ?_⟩) he hpl
  exact run_fnS F hr hb (hx σ) I2 r q
section
variable {T : Tb} {W : WX} {Z Z' Z'' : Addr → Prop} {H H' H'' : Hp} {ρ ρ' ρ'' : List En} {σ σ' σ'' : L2.St} {P : Addr → Prop} {x y : V} {d e : D} {Q : VK} {Dn : Ends}
theorem sp_callv {φ : Nat → List En → FR} {fs : List En → Rs (List Vl)} {i : Nat} {S : Addr → Option L2.Sp} (hS : ∀ k a, T.fa k = some a → S a = some (spF T (φ k)))
    (h : Sp T W (fun ρ => (fnS i ρ).bd fun f ρ0 => (fs ρ0).bd fun vs ρ1 => doCall (φ f) vs ρ1) σ H Q) : tCallAS i S (WE W) (SpA T W fs) σ H Q := by
  obtain ⟨Z, ρ, r, h⟩ := h
  replace h : Pst T W (VlR T) Ov N0 Z H ρ σ ((fnS i ρ).bd fun f ρ0 => (fs ρ0).bd fun vs ρ1 => doCall (φ f) vs ρ1) Q := h
  have e0 : fnS i ρ = match gt ρ i with
    | .da .s (.fn k) => .ok k ρ
    | _ => .no := rfl
  cases hg : gt ρ i with
  | un => rw [e0, hg] at h; exact h.elim
  | xc _ => rw [e0, hg] at h; exact h.elim
  | da w d =>
    rw [e0, hg] at h
    cases w with
    | o => exact h.elim
    | l => exact h.elim
    | s =>
      cases d with
      | fn k =>
        have q := r.sl i
        rw [hg] at q
        obtain ⟨v, e1, q⟩ := q
        cases q with
        | fn hf =>
          refine ⟨_, _, gv_some e1, hS _ _ hf, ?_⟩
          exact sp_call (φ := φ k) ⟨Z, ρ, r, h⟩
      | _ => exact h.elim
theorem gt_app {as : List En} {n : Nat} (i : Nat) : gt (as ++ List.replicate n .un) i = gt as i := by
  unfold gt
  by_cases h : i < as.length
  · rw [List.getElem?_append_left h]
  · rw [List.getElem?_append_right (by omega), List.getElem?_eq_none (l := as) (by omega), List.getElem?_replicate]
    split <;> rfl
theorem gv_app {n : Nat} (i : Nat) : gv (σ ++ List.replicate n none) i = gv σ i := by
  unfold gv
  by_cases h : i < σ.length
  · rw [List.getElem?_append_left h]
  · rw [List.getElem?_append_right (by omega), List.getElem?_eq_none (l := σ) (by omega), List.getElem?_replicate]
    split <;> rfl
theorem own_app {as : List En} {n m i : Nat} {a : Addr} (h : Own (as ++ List.replicate n .un) (σ ++ List.replicate m none) i a) : Own as σ i a := by
  obtain ⟨⟨w, d, e, hw⟩, hv⟩ := h
  rw [gt_app] at e
  rw [gv_app] at hv
  exact ⟨⟨w, d, e, hw⟩, hv⟩
theorem Rel.app {as : List En} {n : Nat} (r : Rel T Z as σ H) : Rel T Z (as ++ List.replicate n .un) (σ ++ List.replicate n none) H :=
  ⟨by simp [r.len], fun i => by rw [gt_app, gv_app]; exact r.sl i, fun i j a h1 h2 => r.sep i j a (own_app h1) (own_app h2), fun a ⟨i, h⟩ => r.zs a ⟨i, own_app h⟩, r.zd⟩
theorem gt_take {np k : Nat} (h : k < np) : gt (fins np ρ) k = gt ρ k := by
  unfold gt fins
  rw [List.getElem?_map, List.getElem?_range h]
  rfl
theorem msk_cases {as fin : List En} (har : ∀ e ∈ as, Ar e) (k : Nat) : gt (msk as fin) k = .un ∨ (∃ d, gt as k = .da .s d ∧ gt (msk as fin) k = .da .s d) ∨ (k < as.length ∧ ∃ d, gt as k = .da .l d ∧ gt (msk as fin) k = gt fin k) := by
  unfold msk
  cases e1 : as[k]? with
  | none =>
    left
    unfold gt
    rw [List.getElem?_zipWith, e1]
    rfl
  | some a =>
    cases e2 : fin[k]? with
    | none =>
      left
      unfold gt
      rw [List.getElem?_zipWith, e1, e2]
      rfl
    | some f =>
      have h1 : gt (List.zipWith mk1 as fin) k = mk1 a f := by
        unfold gt
        rw [List.getElem?_zipWith, e1, e2]
        rfl
      have h2 : gt as k = a := gt_some e1
      have h3 : gt fin k = f := gt_some e2
      have ha := har a (List.mem_of_getElem? e1)
      cases a with
      | un => exact ha.elim
      | xc _ => exact ha.elim
      | da w d =>
        cases w with
        | s => exact .inr (.inl ⟨d, h2, h1⟩)
        | o => exact .inl h1
        | l => exact .inr (.inr ⟨(List.getElem?_eq_some_iff.mp e1).1, d, h2, h1.trans h3.symm⟩)
theorem goF_of {as : List En} {vs : List V} {n : Nat} {E : Addr → Prop} (har : ∀ e ∈ as, Ar e) (hl : as.length = vs.length) (r : Rel T Z as (vs.map some) H)
    (g : GoS T N0 Z H (as ++ List.replicate n .un) (vs.map some ++ List.replicate n none) Z' H' ρ' σ' E) :
    GoF T Z H as (vs.map some) Z' H' (msk as (fins vs.length ρ')) E ∧ ∀ a, Os (msk as (fins vs.length ρ')) (vs.map some) a → Os ρ' σ' a := by
  have lent : ∀ k d, k < as.length → gt as k = .da .l d → gt (fins vs.length ρ') k = gt ρ' k ∧ gv σ' k = gv (vs.map some) k := fun k d hk e => by
    obtain ⟨d', e1, e2⟩ := g.lt k d (by rw [gt_app]; exact e)
    rw [gv_app] at e2
    exact ⟨gt_take (by rw [← hl]; exact hk), e2⟩
  have own : ∀ k a, Own (msk as (fins vs.length ρ')) (vs.map some) k a → Own ρ' σ' k a := fun k a ⟨⟨w, d, e, hw⟩, hv⟩ => by
    rcases msk_cases har (fin := fins vs.length ρ') k with q | ⟨d', q1, q2⟩ | ⟨hk, d', q1, q2⟩
    · rw [q] at e; cases e
    · rw [q2] at e; cases e; exact absurd rfl hw
    · obtain ⟨p1, p2⟩ := lent k d' hk q1
      rw [q2, p1] at e
      exact ⟨⟨w, d, e, hw⟩, by rw [p2]; exact hv⟩
  have os : ∀ a, Os (msk as (fins vs.length ρ')) (vs.map some) a → Os ρ' σ' a := fun a ⟨k, h⟩ => ⟨k, own k a h⟩
  have os0 : ∀ a, (Os (as ++ List.replicate n .un) (vs.map some ++ List.replicate n none) a ∨ N0 a) → Os as (vs.map some) a := fun a h => h.elim (fun ⟨k, h⟩ => ⟨k, own_app h⟩) fun h => h.elim
  refine ⟨⟨(g.nx.pre os0).weak fun a h => h.imp (os a) id, ⟨?_, fun k => ?_, fun i j a h1 h2 => g.rel.sep i j a (own i a h1) (own j a h2), fun a h => g.rel.zs a (os a h), g.rel.zd⟩⟩, os⟩
  · unfold msk fins
    simp [hl]
  · rcases msk_cases har (fin := fins vs.length ρ') k with q | ⟨d', q1, q2⟩ | ⟨hk, d', q1, q2⟩
    · rw [q]; trivial
    · rw [q2]
      have q := r.sl k
      rw [q1] at q
      obtain ⟨v, e, q⟩ := q
      exact ⟨v, e, g.nx.rp (Rel.ok0 r.app) q⟩
    · obtain ⟨p1, p2⟩ := lent k d' hk q1
      rw [q2, p1, ← p2]
      exact g.rel.sl k
theorem XcR.any {c : Value} {dd : Option Addr} {xx : Xc} (h : XcR T c dd xx) : XcR T c dd xx := h
theorem GoF.weakE {as as' : List En} {E F : Addr → Prop} (g : GoF T Z H as σ Z' H' as' E) (h : ∀ a, F a → E a) : GoF T Z H as σ Z' H' as' F := ⟨g.nx.weak fun a q => q.imp id (h a), g.rel⟩
/-- a def, by its body: what is asked of its answer is what its body's answer asks -/
theorem def_ok {E : XK} {as : List En} {vs : List V} {n : Nat} {res : Rs Fl} {Q : VK} (hl : as.length = vs.length) (har : ∀ e ∈ as, Ar e) (r : Rel T Z as (vs.map some) H)
    (h : PstF T E Z H as (vs.map some) (endD vs.length res) Q) :
    PstS T (fun c d _ H => E c d H) N0 Z H (as ++ List.replicate n .un) (vs.map some ++ List.replicate n none) res { nx := fun _ H' => Q .non H', rt := Q } := by
  cases res with
  | no => exact h.elim
  | ex xx ρ' => exact fun c d σ' H' Z' g hx => h c d H' Z' (goF_of har hl r g).1 hx
  | ok f ρ' =>
    cases f with
    | bk => exact h.elim
    | ct => exact h.elim
    | nx => exact fun σ' H' Z' g => h .non H' Z' (((goF_of har hl r g).1).weakE fun a z => by obtain ⟨⟨_, e⟩, _⟩ := z; cases e) .non
    | rt o d => exact fun v σ' H' Z' g hv => h v H' Z' (goF_of har hl r g).1 (hv.move fun a q z => hv.nos a q ((goF_of har hl r g).2 a z))
end
end G
set_option maxHeartbeats 4000000
/-! F27: what a text's tree must be like; contexts. -/
namespace G
open PySem L2 PySem.Spec PyProof.Rows
/-! ### operators -/
def binO : Op2 → Option Operator
  | .add => some .Add | .sub => some .Sub | .mul => some .Mult | .fdv => some .FloorDiv | .mod => some .Mod | .pow => some .Pow
  | _ => none
def cmpO : Op2 → Option CmpOp
  | .lt => some .Lt | .le => some .LtE | .gt => some .Gt | .ge => some .GtE | .eq => some .Eq | .ne => some .NotEq | .isin => some .In | .notin => some .NotIn | .isB => some .Is | .nisB => some .IsNot
  | _ => none
def rOp (K : PySem.W.Frag) : Op2 → R2
  | .add => rAdd4 K
  | .sub => rI0 fun i j => .int (i - j)
  | .mul => rMul1
  | .fdv => rI CDiv fun i j => .int (i / j)
  | .mod => rI (fun _ j => 0 < j) fun i j => .int (i % j)
  | .pow => rI CPow fun i j => .int (i ^ j.toNat)
  | .lt => rLt3 K
  | .le => rI0 fun i j => .bl (decide (i ≤ j))
  | .gt => rI0 fun i j => .bl (decide (j < i))
  | .ge => rI0 fun i j => .bl (decide (j ≤ i))
  | .eq => rEqD K
  | .ne => rNeD K
  | .isin => rIn4 K
  | .notin => rNi3 K
  | .isB => rIsB
  | .nisB => rNotB
theorem op_bin {X : Cx} {o : Op2} {op : Operator} (h : binO o = some op) : OpR X (binaryOp op) (rOp X.K o) := by
  cases o <;> cases h
  · exact op_add4
  · exact op_sub
  · exact op_mul
  · exact op_fdiv
  · exact op_mod
  · exact op_pow
theorem op_cmp {X : Cx} (hu : X.A.units + 65 < cLine) {o : Op2} {op : CmpOp} (h : cmpO o = some op) : OpR X (compareOp op) (rOp X.K o) := by
  cases o <;> cases h
  · exact op_lt3 (by omega)
  · exact op_le
  · exact op_gt
  · exact op_ge
  · exact op_eqD (by omega)
  · exact op_neD (by omega)
  · exact op_in4 hu
  · exact op_ni3 hu
  · exact op_isBl
  · exact op_notBl
theorem op_ok {T : Tb} {W : WX} {Z : Addr → Prop} {H : Hp} {ρ : List En} {σ : L2.St} {P : Addr → Prop} {x y : V} {d e : D} {Q : VK} (o : Op2) (r : Rel T Z ρ σ H) (hx : Vw T Z H x d) (hy : Vw T Z H y e) (h : P2 T W P Z H ρ σ (prim2 o d e) Q) : rOp T.K o x y H Q := by
  cases o with
  | add => exact add_ok r hx hy h
  | sub => exact sub_ok r hx hy h
  | mul => exact mul_ok r hx hy h
  | fdv => exact fdv_ok r hx hy h
  | mod => exact mod_ok r hx hy h
  | pow => exact pow_ok r hx hy h
  | lt => exact lt_ok r hx hy h
  | le => exact le_ok r hx hy h
  | gt => exact gt_ok r hx hy h
  | ge => exact ge_ok r hx hy h
  | eq => exact eq_ok r hx hy h
  | ne => exact ne_ok r hx hy h
  | isin => exact in_ok r hx hy h
  | notin => exact ni_ok r hx hy h
  | isB =>
    cases d with
    | bl a =>
      cases e with
      | bl b =>
        obtain rfl := hx.bl
        obtain rfl := hy.bl
        exact ⟨a, b, rfl, rfl, Pst.shr r h (.bl _)⟩
      | _ => exact h.elim
    | _ => cases e <;> exact h.elim
  | nisB =>
    cases d with
    | bl a =>
      cases e with
      | bl b =>
        obtain rfl := hx.bl
        obtain rfl := hy.bl
        exact ⟨a, b, rfl, rfl, Pst.shr r h (.bl _)⟩
      | _ => exact h.elim
    | _ => cases e <;> exact h.elim
/-! ### heads of trees -/
def strip : Expr → Expr
  | .BoolOp _ [a] _ => a
  | e => e
theorem pe_strip {X : Cx} {e : Expr} {t : TE} (h : PE X (strip e) t) : PE X e t := by
  unfold strip at h
  split at h
  · exact pe_one h
  · exact h
def noStar : Expr → Bool
  | .Starred _ _ => false
  | _ => true
theorem star_cons {e : Expr} {es : List Expr} {env : Env} (h : noStar e = true) : starEach (e :: es) env = (false, eval e env) :: starEach es env := by
  cases e <;> first | rfl | cases h
theorem star_pl {env : Env} {pos : Pos} : ∀ {es : List Expr}, es.all noStar = true → (backTo pos (starEach es env)).any (·.1) = false
  | [], _ => rfl
  | e :: es, h => by
    rw [List.all_cons, Bool.and_eq_true] at h
    rw [star_cons h.1]
    show (false || (backTo pos (starEach es env)).any (·.1)) = false
    rw [star_pl h.2]
    rfl
def noSl : Expr → Bool
  | .Slice _ _ _ _ => false
  | _ => true
theorem plain_ix {b : Expr} (h : noSl b = true) : PlainIx b := by
  intro o i
  cases b <;> first | rfl | cases h
def noSet : Expr → Bool
  | .Set _ _ _ => false
  | _ => true
theorem set_mark {b : Expr} {op : CmpOp} (h : noSet b = true) : behindInMarks op b = false := by
  cases b <;> first | rfl | cases h
theorem set_fold {b : Expr} {env : Env} (h : noSet b = true) (x : Value) : foldedSetIterable b env x = pure x := by
  cases b <;> first | rfl | cases h
def noComp : Expr → Bool
  | .ListComp _ _ _ _ => false
  | .SetComp _ _ _ _ => false
  | .DictComp _ _ _ _ _ => false
  | _ => true
theorem comp_sw {b : Expr} {t : Option Expr} {l : Nat} {env : Env} (h : noComp b = true) : swapsWith b t l env = pure false := by
  cases b <;> first | rfl | cases h
/-- tests that are told by the value -/
def plainT : Expr → Bool
  | .UnaryOp _ _ _ => false
  | .BoolOp _ _ _ => false
  | .IfExp _ _ _ _ => false
  | .Compare _ _ _ _ => false
  | _ => true
theorem plain_true {e : Expr} {env : Env} (h : plainT e = true) (whole : Sem Value) : isTrue e env whole = (do let v ← whole; standAt e.pos; holding [v] (truthy v)) := by
  cases e <;> first | rfl | cases h
def noCall0 : Expr → Bool
  | .Call (.Name _ _) [] [] _ => false
  | _ => true
theorem attr_base {o : Expr} {m : Str} {env : Env} {whole : Sem Value} (h : noCall0 o = true) : attributeBase o m env whole = whole := by
  unfold attributeBase
  split
  · cases h
  · rfl
end G
set_option maxHeartbeats 4000000
/-! F28: a def's tree is that of a text. -/
namespace G
open PySem L2 PySem.Spec PyProof.Rows
/-- what the module's names are -/
structure Nm where
  F : List (Str × Nat)
  C : List (Str × Nat)
  B : List (Str × Nat)
  G : List (Str × Nat)
structure CC where
  N : List Str
  sc : Scope
  fn : Option Scope
  calm : Bool
  sx : Bool
  nm : Nm
def okN (x : Str) : Bool := !(x == ("__debug__" : Str)) && !(x == ("__classdict__" : Str)) && !(x == ("__name__" : Str))
def visB (sc : Scope) (x : Str) : Bool := match sc.names.lookup x with
  | some .local => true
  | some .cell => true
  | some .free => true
  | _ => false
def locB (sc : Scope) (x : Str) : Bool := match sc.names.lookup x with
  | some .local => true
  | some .cell => true
  | _ => false
def isLocal (sc : Scope) (x : Str) : Bool := match sc.names.lookup x with
  | some .local => true
  | _ => false
def isFun (sc : Scope) : Bool := match sc.kind with
  | .function => true
  | _ => false
def glB (c : CC) (x : Str) : Bool := match c.sc.names.lookup x with
  | some .globalImplicit => true
  | _ => false
def slB (c : CC) (i : Nat) (x : Str) : Bool := match c.N[i]? with
  | some y => y == x
  | none => false
/-- a slot is read -/
def rdB (c : CC) (i : Nat) (x : Str) : Bool := slB c i x && visB c.sc x && okN x
/-- may be stored to -/
def fnB (c : CC) (x : Str) : Bool := (match c.fn with
  | none => true
  | some sc => (match sc.names.lookup x with
    | some .cell => true
    | _ => false)) || isLocal c.sc x
def stB (c : CC) (i : Nat) (x : Str) : Bool := slB c i x && locB c.sc x && fnB c x
def nmB (c : CC) (l : List (Str × Nat)) (x : Str) (k : Nat) : Bool := glB c x && okN x && (match l.lookup x with
  | some n => n == k
  | none => false)
def bltB (c : CC) (x y : Str) : Bool := x == y && glB c y && okN y
def ownOf (c : CC) (vs : List Nat) : List (Str × Nat) := vs.map fun v => (c.N.getD v "", v)
/-- the block of a comprehension -/
def blk (c : CC) (scope : Scope) : CC := { c with sc := relS scope c.sc, fn := some scope, sx := false }
def eqOp (a b : Operator) : Bool := decide (a = b)
def eqCmp (a b : CmpOp) : Bool := decide (a = b)
def tgVs : Tg → List Nat
  | .v i => [i]
  | .t ts => tgsVs ts
  | .ix _ _ => []
where tgsVs : Tgs → List Nat
  | .nil => []
  | .cons t ts => tgVs t ++ tgsVs ts
def plainTe : Te → Bool
  | .val _ => true
  | .tru _ => true
  | _ => false
mutual
def chE (c : CC) : Ex → Expr → Bool
  | .non, e => (match strip e with | .Constant .none _ _ => true | _ => false)
  | .bl b, e => (match strip e with | .Constant (.bool b') _ _ => b == b' | _ => false)
  | .int i, e => (match strip e with | .Constant (.int j) _ _ => i == j | _ => false)
  | .str x, e => (match strip e with | .Constant (.str y) _ _ => x == y && PyData.strOk x | _ => false)
  | .var i, e => (match strip e with | .Name x _ => rdB c i x | _ => false)
  | .gc n, e => (match strip e with | .Name x _ => nmB c c.nm.G x n | _ => false)
  | .fnv n, e => (match strip e with | .Name x _ => nmB c c.nm.F x n | _ => false)
  | .tup es, e => (match strip e with | .Tuple es' _ _ => chEs c es es' | _ => false)
  | .lst es, e => (match strip e with | .List es' _ => chEs c es es' | _ => false)
  | .dnew _, e => (match strip e with | .Dict [] [] _ => true | _ => false)
  | .op2 o a b, e => (match strip e with
    | .BinOp a' op b' _ => (match binO o with | some op' => eqOp op op' | none => false) && chE c a a' && chE c b b'
    | .Compare a' [op] [b'] _ => (match cmpO o with | some op' => eqCmp op op' | none => false) && chE c a a' && chE c b b' && noSet b'
    | _ => false)
  | .op1 .neg a, e => (match strip e with | .UnaryOp .USub a' _ => chE c a a' | _ => false)
  | .op1 .not a, e => (match strip e with | .UnaryOp .Not a' _ => chE c a a' | _ => false)
  | .op1 .isN a, e => (match strip e with | .Compare a' [.Is] [.Constant .none _ _] _ => chE c a a' | _ => false)
  | .op1 .notN a, e => (match strip e with | .Compare a' [.IsNot] [.Constant .none _ _] _ => chE c a a' | _ => false)
  | .and a b, e => (match strip e with | .BoolOp .And (e1 :: e2 :: es) pos => chE c a e1 && chE c b (.BoolOp .And (e2 :: es) pos) | _ => false)
  | .or a b, e => (match strip e with | .BoolOp .Or (e1 :: e2 :: es) pos => chE c a e1 && chE c b (.BoolOp .Or (e2 :: es) pos) | _ => false)
  | .chain o p a b d, e => (match strip e with
    | .Compare a' [op, oq] [b', d'] _ => (match cmpO o with | some op' => eqCmp op op' | none => false) && (match cmpO p with | some op' => eqCmp oq op' | none => false) && chE c a a' && chE c b b' && chE c d d' && noSet b' && noSet d'
    | _ => false)
  | .ife t a b, e => (match strip e with | .IfExp t' a' b' _ => chT c t t' && chE c a a' && chE c b b' | _ => false)
  | .idx a b, e => (match strip e with | .Subscript a' b' _ => chE c a a' && chE c b b' && noSl b' | _ => false)
  | .sl a lo hi, e => (match strip e with | .Subscript a' (.Slice lo' hi' none _) _ => chE c a a' && chO c lo lo' && chO c hi hi' | _ => false)
  | .rev a, e => (match strip e with | .Subscript a' (.Slice none none (some (.UnaryOp .USub (.Constant (.int 1) _ _) _)) _) _ => chE c a a' | _ => false)
  | .call f es, e => (match strip e with | .Call (.Name x _) (e1 :: es') [] _ => nmB c c.nm.F x f && c.calm && chEs c es (e1 :: es') | _ => false)
  | .callv i es, e => (match strip e with | .Call (.Name x _) (e1 :: es') [] _ => rdB c i x && c.calm && chEs c es (e1 :: es') | _ => false)
  | .lrg1 a, e => (match strip e with | .Call (.Name x _) [.Call (.Name y _) [a'] [] _] [] _ => bltB c x "list" && bltB c y "range" && c.calm && chE c a a' && noStar a' | _ => false)
  | .lrg2 a b, e => (match strip e with | .Call (.Name x _) [.Call (.Name y _) [a', b'] [] _] [] _ => bltB c x "list" && bltB c y "range" && c.calm && chE c a a' && noStar a' && chE c b b' && noStar b' | _ => false)
  | .bi b es, e => (match strip e with | .Call (.Name x _) (e1 :: es') [] _ => bltB c x (biN b) && biOk b && c.calm && chEs c es (e1 :: es') | _ => false)
  | .isi t a, e => (match strip e with | .Call (.Name x _) [a', .Name y _] [] _ => bltB c x "isinstance" && bltB c y (tyS t) && chE c a a' && noStar a' | _ => false)
  | .isx i k, e => (match strip e with | .Call (.Name x _) [.Name n _, .Name y _] [] _ => bltB c x "isinstance" && rdB c i n && c.sx && (nmB c c.nm.C y k || nmB c c.nm.B y k) | _ => false)
  | .mth .index a es, e => (match strip e with | .Call (.Attribute a' m p1) [e1] [] p2 => m == ("index" : Str) && chE c a a' && noCall0 a' && chEs c es [e1] && (p1.endLine == p2.line) | _ => false)
  | .mth .count a es, e => (match strip e with | .Call (.Attribute a' m p1) [e1] [] p2 => m == ("count" : Str) && chE c a a' && noCall0 a' && chEs c es [e1] && (p1.endLine == p2.line) | _ => false)
  | .mth .get1 a (.cons b .nil), e => (match strip e with | .Call (.Attribute a' m p1) [e1] [] p2 => m == ("get" : Str) && chE c a a' && noCall0 a' && chE c b e1 && noStar e1 && (p1.endLine == p2.line) | _ => false)
  | .mth .get2 a (.cons b (.cons d .nil)), e => (match strip e with | .Call (.Attribute a' m p1) [e1, e2] [] p2 => m == ("get" : Str) && chE c a a' && noCall0 a' && chE c b e1 && noStar e1 && chE c d e2 && noStar e2 && (p1.endLine == p2.line) | _ => false)
  | .mth .get1 _ _, _ => false
  | .mth .get2 _ _, _ => false
  | .pop i, e => (match strip e with | .Call (.Attribute (.Name x _) m p1) [] [] p2 => m == ("pop" : Str) && rdB c i x && (p1.endLine == p2.line) | _ => false)
  | .popAt i a, e => (match strip e with | .Call (.Attribute (.Name x _) m p1) [e1] [] p2 => m == ("pop" : Str) && rdB c i x && chE c a e1 && noStar e1 && (p1.endLine == p2.line) | _ => false)
  | .comp vs elt tg it ts, e => (match strip e with
    | .ListComp elt' [⟨tg', it', ifs, 0⟩] scope _ => c.calm && blkC c.N c.sc scope (ownOf c vs) && (tgVs tg).all (fun j => vs.contains j) && noSet it' && chI c it it' tg' && chG (blk c scope) tg tg' && chTs (blk c scope) ts ifs && chE (blk c scope) elt elt'
    | _ => false)
  | .dcomp vs k v tg it ts, e => (match strip e with
    | .DictComp k' v' [⟨tg', it', ifs, 0⟩] scope _ => c.calm && blkC c.N c.sc scope (ownOf c vs) && (tgVs tg).all (fun j => vs.contains j) && noSet it' && chI c it it' tg' && chG (blk c scope) tg tg' && chTs (blk c scope) ts ifs && chE (blk c scope) k k' && chE (blk c scope) v v'
    | _ => false)
/-- a comparison as a test -/
def chC (c : CC) : Ex → Expr → Bool
  | .op2 o a b, e => (match e with | .Compare a' [op] [b'] _ => (match cmpO o with | some op' => eqCmp op op' | none => false) && chE c a a' && chE c b b' && noSet b' | _ => false)
  | .op1 .isN a, e => (match e with | .Compare a' [.Is] [.Constant .none _ _] _ => chE c a a' | _ => false)
  | .op1 .notN a, e => (match e with | .Compare a' [.IsNot] [.Constant .none _ _] _ => chE c a a' | _ => false)
  | .chain o p a b d, e => (match e with | .Compare a' [op, oq] [b', d'] _ => (match cmpO o with | some op' => eqCmp op op' | none => false) && (match cmpO p with | some op' => eqCmp oq op' | none => false) && chE c a a' && chE c b b' && chE c d d' && noSet b' && noSet d' | _ => false)
  | _, _ => false
def chEs (c : CC) : Exs → List Expr → Bool
  | .nil, [] => true
  | .cons x xs, e :: es => chE c x e && noStar e && chEs c xs es
  | .nil, _ :: _ => false
  | .cons _ _, [] => false
/-- as a test -/
def chT (c : CC) : Te → Expr → Bool
  | .val x, e => chC c x e || (chE c x e && plainT e)
  | .tru x, e => chE c x e && plainT e
  | .not t, e => (match e with | .UnaryOp .Not e' _ => chT c t e' | _ => false)
  | .and t u, e => (match e with
    | .BoolOp .And [e1, e2] _ => chT c t e1 && chT c u e2
    | .BoolOp .And (e1 :: e2 :: e3 :: es) pos => chT c t e1 && chT c u (.BoolOp .And (e2 :: e3 :: es) pos)
    | _ => false)
  | .or t u, e => (match e with
    | .BoolOp .Or [e1, e2] _ => chT c t e1 && chT c u e2
    | .BoolOp .Or (e1 :: e2 :: e3 :: es) pos => chT c t e1 && chT c u (.BoolOp .Or (e2 :: e3 :: es) pos)
    | _ => false)
def chTs (c : CC) : Tes → List Expr → Bool
  | .nil, [] => true
  | .one t, [e] => chT c t e
  | .nil, _ :: _ => false
  | .one _, [] => false
  | .one _, _ :: _ :: _ => false
def chO (c : CC) : Ox → Option Expr → Bool
  | .no, none => true
  | .so x, some e => chE c x e
  | .no, some _ => false
  | .so _, none => false
/-- what is walked; tg: the target -/
def chI (c : CC) : It → Expr → Expr → Bool
  | .val x, e, _ => chE c x e
  | .keys i, e, _ => (match e with | .Name x _ => rdB c i x | _ => false)
  | .rng1 a, e, _ => (match e with | .Call (.Name x _) [a'] [] _ => bltB c x "range" && chE c a a' && noStar a' | _ => false)
  | .rng2 a b, e, _ => (match e with | .Call (.Name x _) [a', b'] [] _ => bltB c x "range" && chE c a a' && noStar a' && chE c b b' && noStar b' | _ => false)
  | .rng3 _ _ _, _, _ => false
  | .zip a b, e, tg => (match e, tg with | .Call (.Name x _) [a', b'] [] _, .Tuple _ _ _ => bltB c x "zip" && chE c a a' && noStar a' && chE c b b' && noStar b' | _, _ => false)
  | .enm a, e, tg => (match e, tg with | .Call (.Name x _) [a'] [] _, .Tuple _ _ _ => bltB c x "enumerate" && chE c a a' && noStar a' | _, _ => false)
def chG (c : CC) : Tg → Expr → Bool
  | .v i, e => (match e with | .Name x _ => stB c i x | _ => false)
  | .t ts, e => (match e with | .Tuple es _ _ => c.calm && chGs c ts es | _ => false)
  | .ix i k, e => (match e with | .Subscript (.Name x _) k' _ => rdB c i x && chE c k k' && noSl k' | _ => false)
def chGs (c : CC) : Tgs → List Expr → Bool
  | .nil, [] => true
  | .cons t ts, e :: es => chG c t e && noStar e && chGs c ts es
  | .nil, _ :: _ => false
  | .cons _ _, [] => false
end
end G
set_option maxHeartbeats 4000000
/-! F29: contexts of the checker. -/
namespace G
open PySem L2 PySem.Spec PyProof.Rows
def bltNames : List Str := ["isinstance", "len", "abs", "sum", "max", "min", "any", "all", "sorted", "tuple", "list", "int", "bool", "str", "dict", "range", "zip", "enumerate"]
/-- what the module's names stand for -/
structure MF (K : PySem.W.Frag) (mg : Str → Option Value) (T : Tb) (g : Gx) (nm : Nm) : Prop where
  blt : ∀ x ∈ bltNames, mg x = none
  cst : ∀ x n, nm.G.lookup x = some n → ∃ u v, mg x = some u ∧ RelV v u ∧ ∀ Z H, Rp T Z H v (g.gc n)
  inj : ∀ j k a, T.fa j = some a → T.fa k = some a → j = k
  fnv : ∀ x k, nm.F.lookup x = some k → ∃ f, mg x = some (.ref f) ∧ T.fa k = some f
  cls : ∀ x k, nm.C.lookup x = some k → ∃ C, mg x = some (.ref C) ∧ T.ca k = some C ∧ ∀ j D, T.ca j = some D → PySem.W.kitOne K (.ref D) (.ref C) = some (g.sub j k) ∧ PySem.W.exmOne K (.ref D) (.ref C) = some (g.sub j k)
  cbl : ∀ x k, nm.B.lookup x = some k → ∃ n, bootBuiltins x = some (.type n) ∧ mg x = none ∧ ∀ j D, T.ca j = some D → PySem.W.kitOne K (.ref D) (.type n) = some (g.sub j k) ∧ PySem.W.exmOne K (.ref D) (.type n) = some (g.sub j k)
  exc : ∀ k C, T.ca k = some C → ExcC K C ∧ PySem.W.excIn K C [.type "ValueError", .type "Exception", .type "BaseException", .type "object"] "ValueError.__new__" = true ∧ PySem.W.keepIn K (.ref C) = true ∧ PySem.W.subIn K (.ref C) (.type "BaseException") = some true ∧ PySem.W.typeIn K (.ref C) = some (.type "type")
structure GX (X : Cx) (T : Tb) (W : WX) (g : Gx) (c : CC) (lev : Nat) : Prop where
  hK : X.K = T.K
  hN : X.N = c.N
  nd : c.N.Nodup
  sc : X.env.scope = c.sc
  kd : c.sc.kind = .function
  cm : c.calm = true → X.calm = true
  un : X.A.units + 65 < cLine
  fn : ∀ x, fnB c x = true → X.fn x = true ∨ c.sc.names.lookup x = some .local
  mf : MF X.K X.mg T g c.nm
  fo : c.calm = true → ∀ k f, T.fa k = some f → ∃ fd ps, FnOk X.prog X.w X.K X.mg X.base (CX X.prog X.w) lev f fd ps (spF T (g.φ k)) ∧ PySem.W.keepIn X.K (.ref f) = true ∧ Binds X.K fd ps []
  rm : c.calm = true → Room lev X.A
  tk : Takes X W
  sx : c.sx = true → ∃ a D, CallR X (.builtin "isinstance") (rIsE X.K D a) ∧ ∀ b y, T.px b y → b = a ∧ T.ca y.c = some D
section
variable {X : Cx} {T : Tb} {W : WX} {g : Gx} {c : CC} {lev : Nat}
theorem GX.nd' (G : GX X T W g c lev) : X.N.Nodup := by rw [G.hN]; exact G.nd
theorem GX.sl (G : GX X T W g c lev) {i : Nat} {x : Str} (h : slB c i x = true) : X.N[i]? = some x := by
  unfold slB at h
  rw [G.hN]
  cases e : c.N[i]? with
  | none => rw [e] at h; cases h
  | some y => rw [e] at h; exact congrArg some (beq_iff_eq.mp h)
theorem okN_d {x : Str} (h : okN x = true) : (x == ("__debug__" : Str)) = false ∧ (x == ("__classdict__" : Str)) = false ∧ x ≠ "__name__" := by
  unfold okN at h
  simp only [Bool.and_eq_true, Bool.not_eq_true'] at h
  exact ⟨h.1.1, h.1.2, fun e => by have := h.2; rw [e] at this; exact absurd this (by decide)⟩
theorem GX.rdV (G : GX X T W g c lev) {i : Nat} {x : Str} {p : Pos} (h : rdB c i x = true) : PE X (.Name x p) (tVar i) := by
  unfold rdB at h
  simp only [Bool.and_eq_true] at h
  obtain ⟨d1, d2, _⟩ := okN_d h.2
  refine pe_var (G.sl h.1.1) ?_ d1 d2
  have q := h.1.2
  unfold visB at q
  rw [← G.sc] at q
  unfold Vis
  split at q
  · rename_i e; exact .inl e
  · rename_i e; exact .inr (.inl e)
  · rename_i e; exact .inr (.inr e)
  · cases q
theorem GX.visV (G : GX X T W g c lev) {i : Nat} {x : Str} (h : rdB c i x = true) : X.N[i]? = some x ∧ Vis X.env.scope x ∧ (x == ("__debug__" : Str)) = false ∧ (x == ("__classdict__" : Str)) = false := by
  unfold rdB at h
  simp only [Bool.and_eq_true] at h
  obtain ⟨d1, d2, _⟩ := okN_d h.2
  refine ⟨G.sl h.1.1, ?_, d1, d2⟩
  have q := h.1.2
  unfold visB at q
  rw [← G.sc] at q
  unfold Vis
  split at q
  · rename_i e; exact .inl e
  · rename_i e; exact .inr (.inl e)
  · rename_i e; exact .inr (.inr e)
  · cases q
theorem GX.gl (G : GX X T W g c lev) {x : Str} (h : glB c x = true) : Gl X x := by
  unfold glB at h
  unfold Gl Env.kindOf
  rw [G.sc]
  split at h
  · assumption
  · cases h
theorem nmB_at {l : List (Str × Nat)} {x : Str} {k : Nat} (h : nmB c l x k = true) : glB c x = true ∧ okN x = true ∧ l.lookup x = some k := by
  unfold nmB at h
  simp only [Bool.and_eq_true] at h
  refine ⟨h.1.1, h.1.2, ?_⟩
  have q := h.2
  split at q
  · rename_i e; rw [e, beq_iff_eq.mp q]
  · cases q
theorem bltB_at {x y : Str} (h : bltB c x y = true) : x = y ∧ glB c y = true ∧ okN y = true := by
  unfold bltB at h
  simp only [Bool.and_eq_true] at h
  exact ⟨beq_iff_eq.mp h.1.1, h.1.2, h.2⟩
theorem GX.glob (G : GX X T W g c lev) {x : Str} {v : V} {u : Value} {pos : Pos} (h : glB c x = true) (ho : okN x = true) (hm : X.mg x = some u) (r : RelV v u) : PE X (.Name x pos) (tC v) := pe_glob (G.gl h) hm r (okN_d ho).1
theorem GX.bltn (G : GX X T W g c lev) {x : Str} {v : V} {u : Value} {pos : Pos} (h : glB c x = true) (ho : okN x = true) (hm : X.mg x = none) (hv : bootBuiltins x = some u) (r : RelV v u) : PE X (.Name x pos) (tC v) :=
  pe_bltn (G.gl h) hm hv r (okN_d ho).2.2 (okN_d ho).1
theorem biN_mem (b : Bi) : biN b ∈ bltNames := by cases b <;> decide +kernel
theorem tyS_mem (t : Ty) : tyS t ∈ bltNames := by cases t <;> decide +kernel
theorem chEs_star : ∀ {xs : Exs} {es : List Expr}, chEs c xs es = true → es.all noStar = true
  | .nil, [], _ => rfl
  | .cons x xs, e :: es, h => by
    unfold chEs at h
    simp only [Bool.and_eq_true] at h
    rw [List.all_cons, h.1.2, chEs_star h.2]
    rfl
  | .nil, _ :: _, h => by unfold chEs at h; cases h
  | .cons _ _, [], h => by unfold chEs at h; cases h
end
end G
set_option maxHeartbeats 8000000
/-! F30: expressions. -/
namespace G
open PySem L2 PySem.Spec PyProof.Rows
theorem sp_rev {T : Tb} {W : WX} {fa : List En → Rs Vl} {σ : L2.St} {H : Hp} {Q : VK} (h : Sp T W (fun ρ => (fa ρ).bd fun x ρ1 => lift2 (revD (rd x ρ1)) ρ1) σ H Q) : tRevL T.K (Sp T W fa) σ H Q :=
  sp_un2 (r1 := fun x H1 Q => ∃ a xs, x = .ref a ∧ SqL T.K H1 a xs ∧ ∀ p, H1 p = none → Q (.ref p) (upd H1 p (.lst xs.reverse))) (k := revD) (fun _ _ _ _ _ _ d _ r hx h => by
    cases d with
    | lst ds => exact rev_ok (te := tC .non) r hx h
    | _ => exact h.elim) h
theorem imp_if {b : Bool} {o : Option α} {f : α → Bool} (h : (match o with | some a => f a | none => false) = true) : ∃ a, o = some a ∧ f a = true := by
  cases o with
  | some a => exact ⟨a, rfl, h⟩
  | none => cases h
section
variable {g : Gx} {lev : Nat} {c : CC} {X : Cx} {T : Tb} {W : WX}
theorem scope_eta (s : Scope) : s.kind = s.kind := rfl
theorem GX.blk (J : GX X T W g c lev) {scope : Scope} {own : List (Str × Nat)} (ok : BlkOk X.N X.env.scope scope own) (s : Shared) (H : Hp) (C : Addr) (cl : List (Str × Addr)) (fp : List Addr) :
    GX (X.blk s H scope (compEnvC scope cl C X.env) fp) T W0 g (_root_.G.blk c scope) lev := by
  refine ⟨J.hK, J.hN, J.nd, ?_, ok.kind, J.cm, J.un, fun x h => ?_, J.mf, J.fo, J.rm, takes0, fun z => nomatch z⟩
  · show relS scope X.env.scope = relS scope c.sc
    rw [J.sc]
  · unfold fnB at h
    rw [Bool.or_eq_true] at h
    rcases h with h | h
    · left
      show (scope.names.lookup x == some .cell) = true
      replace h : (match scope.names.lookup x with
        | some .cell => true
        | _ => false) = true := h
      split at h
      · rename_i e; rw [e]; rfl
      · cases h
    · right
      unfold isLocal at h
      split at h
      · assumption
      · cases h
end
end G
set_option maxHeartbeats 16000000
/-! F31: expressions keep their readings. -/
namespace G
open PySem L2 PySem.Spec PyProof.Rows
theorem own_snd {c : CC} {vs : List Nat} : (ownOf c vs).map (·.2) = vs := by
  unfold ownOf
  rw [List.map_map]
  exact List.map_id'' (fun _ => rfl) vs
theorem mem_all {vs js : List Nat} (h : js.all (fun j => vs.contains j) = true) : ∀ j, j ∈ js → j ∈ vs := fun j hj => by
  rw [List.all_eq_true] at h
  exact List.contains_iff_mem.mp (h j hj)
theorem GX.blkOk {X : Cx} {T : Tb} {W : WX} {g : Gx} {c : CC} {lev : Nat} (J : GX X T W g c lev) {scope : Scope} {vs : List Nat} (h : blkC c.N c.sc scope (ownOf c vs) = true) : BlkOk X.N X.env.scope scope (ownOf c vs) := by
  rw [J.hN, J.sc]
  exact blkOk_by h
theorem binO_not {o : Op2} {op : Operator} {op' : CmpOp} (h : binO o = some op) (h' : cmpO o = some op') : False := by
  cases o <;> cases h <;> cases h'
theorem binO_is {o : Op2} {op : Operator} (h : (match binO o with | some op' => eqOp op op' | none => false) = true) : binO o = some op := by
  split at h
  · rename_i op' e; rw [e]; exact congrArg some (of_decide_eq_true h : op = op').symm
  · cases h
theorem cmpO_is {o : Op2} {op : CmpOp} (h : (match cmpO o with | some op' => eqCmp op op' | none => false) = true) : cmpO o = some op := by
  split at h
  · rename_i op' e; rw [e]; exact congrArg some (of_decide_eq_true h : op = op').symm
  · cases h
theorem Sp.mono {T : Tb} {W : WX} {f : List En → Rs Vl} {σ : L2.St} {H : Hp} {Q Q' : VK} (h : Sp T W f σ H Q) (hq : ∀ x H1, Q x H1 → Q' x H1) : Sp T W f σ H Q' := by
  obtain ⟨Z, ρ, r, h⟩ := h
  exact ⟨Z, ρ, r, h.mono hq⟩
theorem Sp.to {T : Tb} {W : WX} {f f' : List En → Rs Vl} {σ : L2.St} {H : Hp} {Q : VK} (h : Sp T W f σ H Q) (e : ∀ ρ, f' ρ = f ρ) : Sp T W f' σ H Q := by
  obtain ⟨Z, ρ, r, h⟩ := h
  exact ⟨Z, ρ, r, by rw [e]; exact h⟩
theorem few1 {e : Expr} {env : Env} {cpos : Pos} (h : noStar e = true) : ((backTo cpos (starEach [e] env)).all (fun x => !x.1) && (backToKw cpos (keywordEach [] env)).all (fun x => x.1.isSome)
    && decide (([e] : List Expr).length + ([] : List Keyword).length + (if ([] : List Keyword).isEmpty then 0 else 1) < 30)) = true := by
  rw [star_cons h]
  rfl
theorem few2 {e f : Expr} {env : Env} {cpos : Pos} (h : noStar e = true) (h' : noStar f = true) : ((backTo cpos (starEach [e, f] env)).all (fun x => !x.1) && (backToKw cpos (keywordEach [] env)).all (fun x => x.1.isSome)
    && decide (([e, f] : List Expr).length + ([] : List Keyword).length + (if ([] : List Keyword).isEmpty then 0 else 1) < 30)) = true := by
  rw [star_cons h, star_cons h']
  rfl
theorem PG.imp {X : Cx} {e : Expr} {t t' : TG} (h : PG X e t) (i : ∀ v σ H Q, t' v σ H Q → t v σ H Q) : PG X e t' := ⟨fun pins s σ H v u Q I r q => h.run pins s σ H v u Q I r (i v σ H Q q)⟩
theorem PGs.imp {X : Cx} {e : List Expr} {t t' : TGs} (h : PGs X e t) (i : ∀ v σ H Q, t' v σ H Q → t v σ H Q) : PGs X e t' := ⟨fun pins s σ H v u Q I r q => h.run pins s σ H v u Q I r (i v σ H Q q)⟩
theorem PTs.imp {X : Cx} {e : List Expr} {t t' : TT} (h : PTs X e t) (i : ∀ σ H Q, t' σ H Q → t σ H Q) : PTs X e t' := ⟨fun pins s σ H Q I q => h.run pins s σ H Q I (i σ H Q q)⟩
theorem spT_yes {T : Tb} {W : WX} {σ : L2.St} {H : Hp} {Q : Bool → Hp → Prop} (h : SpT T W (fun ρ => .ok true ρ) σ H Q) : tYes σ H Q := by
  obtain ⟨Z, ρ, r, h⟩ := h
  exact Pst.bool r h
theorem asg_cons {e : Expr} {es : List Expr} {env : Env} (h : noStar e = true) : (assignEach (e :: es) env).map (·.2) = assign e env :: (assignEach es env).map (·.2) := by
  cases e <;> first | rfl | cases h
theorem asg_one {e : Expr} {es : List Expr} {env : Env} (h : noStar e = true) : assignEach (e :: es) env = (false, assign e env) :: assignEach es env := by
  cases e <;> first | rfl | cases h
theorem chGs_len {c : CC} {env : Env} : ∀ {ts : Tgs} {es : List Expr}, chGs c ts es = true → (assignEach es env).length = tgn ts
  | .nil, [], _ => rfl
  | .cons t ts, e :: es, h => by
    unfold chGs at h
    simp only [Bool.and_eq_true] at h
    rw [asg_one h.1.2, List.length_cons, chGs_len h.2]
    rfl
  | .nil, _ :: _, h => by unfold chGs at h; cases h
  | .cons _ _, [], h => by unfold chGs at h; cases h
theorem chGs_star {c : CC} {env : Env} : ∀ {ts : Tgs} {es : List Expr}, chGs c ts es = true → (assignEach es env).findIdx? (·.1) = none
  | .nil, [], _ => rfl
  | .cons t ts, e :: es, h => by
    unfold chGs at h
    simp only [Bool.and_eq_true] at h
    rw [asg_one h.1.2, List.findIdx?_cons, chGs_star h.2]
    rfl
  | .nil, _ :: _, h => by unfold chGs at h; cases h
  | .cons _ _, [], h => by unfold chGs at h; cases h
theorem sub_asg {o i : Expr} {env : Env} {pos : Pos} (h : noSl i = true) (v : Value) : assign (.Subscript o i pos) env v = (do
      let ov ← holding [v] (eval o env)
      let iv ← holding [v, ov] (eval i env)
      standAt pos
      holding [v, ov, iv] (setItem ov iv v)
      release [v, ov, iv] []) := by
  cases i <;> first | rfl | cases h
section
variable {X : Cx} {T : Tb} {W : WX} {g : Gx} {c : CC} {lev : Nat}
theorem GX.stV (J : GX X T W g c lev) {i : Nat} {x : Str} (h : stB c i x = true) : X.N[i]? = some x ∧ L2.Loc X.env.scope x ∧ (X.fn x = true ∨ X.env.scope.names.lookup x = some .local) := by
  unfold stB at h
  simp only [Bool.and_eq_true] at h
  refine ⟨J.sl h.1.1, ?_, ?_⟩
  · have q := h.1.2
    unfold locB at q
    rw [J.sc]
    unfold L2.Loc
    split at q
    · rename_i e; exact .inl e
    · rename_i e; exact .inr e
    · cases q
  · rw [J.sc]
    exact J.fn x h.2
end
theorem pw_both {X : Cx} {e : Expr} {t : TT} (h : PW X e t) : PT X e t ∧ ((∃ op vs pos, e = .BoolOp op vs pos) → PW X e t) := ⟨h.pt, fun _ => h⟩
section
variable {g : Gx} {lev : Nat}
mutual
theorem soE : ∀ (x : Ex) {c : CC} {e : Expr} {X : Cx} {T : Tb} {W : WX}, GX X T W g c lev → chE c x e = true → PE X e (Sp T W (ev g x))
  | .non, c, e, X, T, W, J, h => by
    refine pe_strip ?_
    unfold chE at h
    split at h
    · rename_i e1; rw [e1]; exact PE.imp pe_non fun _ _ _ q => sp_c (fun _ _ => .non) q
    · cases h
  | .bl b, c, e, X, T, W, J, h => by
    refine pe_strip ?_
    unfold chE at h
    split at h
    · rename_i e1; rw [e1, ← beq_iff_eq.mp h]; exact PE.imp pe_bl fun _ _ _ q => sp_c (fun _ _ => .bl b) q
    · cases h
  | .int i, c, e, X, T, W, J, h => by
    refine pe_strip ?_
    unfold chE at h
    split at h
    · rename_i e1; rw [e1, ← beq_iff_eq.mp h]; exact PE.imp pe_int fun _ _ _ q => sp_c (fun _ _ => .int i) q
    · cases h
  | .str s, c, e, X, T, W, J, h => by
    refine pe_strip ?_
    unfold chE at h
    split at h
    · rename_i e1
      rw [Bool.and_eq_true] at h
      rw [e1, ← beq_iff_eq.mp h.1]
      exact PE.imp pe_str fun _ _ _ q => sp_c (fun _ _ => .str h.2) q
    · cases h
  | .var i, c, e, X, T, W, J, h => by
    refine pe_strip ?_
    unfold chE at h
    split at h
    · rename_i e1; rw [e1]; exact PE.imp (J.rdV h) fun _ _ _ q => sp_var q
    · cases h
  | .gc n, c, e, X, T, W, J, h => by
    refine pe_strip ?_
    unfold chE at h
    split at h
    · rename_i e1
      rw [e1]
      obtain ⟨h1, h2, h3⟩ := nmB_at h
      obtain ⟨u, v, m1, m2, m3⟩ := J.mf.cst _ _ h3
      exact PE.imp (J.glob h1 h2 m1 m2) fun _ _ _ q => sp_c m3 q
    · cases h
  | .fnv n, c, e, X, T, W, J, h => by
    refine pe_strip ?_
    unfold chE at h
    split at h
    · rename_i e1
      rw [e1]
      obtain ⟨h1, h2, h3⟩ := nmB_at h
      obtain ⟨f, m1, m2⟩ := J.mf.fnv _ _ h3
      exact PE.imp (J.glob (v := .ref f) h1 h2 m1 rfl) fun _ _ _ q => sp_c (fun _ _ => .fn m2) q
    · cases h
  | .tup es, c, e, X, T, W, J, h => by
    refine pe_strip ?_
    unfold chE at h
    split at h
    · rename_i e1; rw [e1]; exact PE.imp (pe_tup (soA es J h)) fun _ _ _ q => sp_tup q
    · cases h
  | .lst es, c, e, X, T, W, J, h => by
    refine pe_strip ?_
    unfold chE at h
    split at h
    · rename_i e1; rw [e1]; exact PE.imp (pe_lst (soA es J h)) fun _ _ _ q => sp_lst q
    · cases h
  | .dnew t, c, e, X, T, W, J, h => by
    refine pe_strip ?_
    unfold chE at h
    split at h
    · rename_i e1
      rw [e1]
      cases t with
      | false => exact PE.imp pe_dnewK fun _ _ _ q => sp_dnew (t := false) q
      | true => exact PE.imp pe_dnewT fun _ _ _ q => sp_dnew (t := true) q
    · cases h
  | .op2 o a b, c, e, X, T, W, J, h => by
    refine pe_strip ?_
    unfold chE at h
    split at h
    · rename_i e1
      rw [e1]
      simp only [Bool.and_eq_true] at h
      obtain ⟨⟨h1, h2⟩, h3⟩ := h
      have e2 := binO_is h1
      refine PE.imp (pe_op (op_bin e2) (soE a J h2) (soE b J h3)) fun _ _ _ q => ?_
      rw [J.hK]
      exact sp_op (fun _ _ _ _ _ _ _ _ _ _ => op_ok o) q
    · rename_i e1
      rw [e1]
      simp only [Bool.and_eq_true] at h
      obtain ⟨⟨⟨h1, h2⟩, h3⟩, h4⟩ := h
      have e2 := cmpO_is h1
      refine PE.imp (pe_cmpR (op_cmp J.un e2) (soE a J h2) (soE b J h3) (set_mark h4)) fun _ _ _ q => ?_
      rw [J.hK]
      exact sp_op (fun _ _ _ _ _ _ _ _ _ _ => op_ok o) q
    · cases h
  | .op1 .neg a, c, e, X, T, W, J, h => by
    refine pe_strip ?_
    unfold chE at h
    split at h
    · rename_i e1
      rw [e1]
      exact PE.imp (pe_un un_neg (soE a J h)) fun _ _ _ q => sp_un (k := prim1 .neg) (fun _ _ _ _ _ _ _ _ r hx h => neg_ok r hx h) q
    · cases h
  | .op1 .not a, c, e, X, T, W, J, h => by
    refine pe_strip ?_
    unfold chE at h
    split at h
    · rename_i e1
      rw [e1]
      exact PE.imp (pe_not (soE a J h)) fun _ _ _ q => sp_un (r1 := fun x H1 Q => ∃ c, x = .bl c ∧ Q (.bl (!c)) H1) (k := prim1 .not) (fun _ _ _ _ _ _ _ _ r hx h => not_ok r hx h) q
    · cases h
  | .op1 .isN a, c, e, X, T, W, J, h => by
    refine pe_strip ?_
    unfold chE at h
    split at h
    · rename_i e1
      rw [e1]
      refine PE.imp (pe_cmpR op_isN (soE a J h) pe_non (nomark _)) fun σ H Q q => ?_
      have q2 := sp_un (r1 := fun x H1 Q => Q (.bl (decide (x = .non))) H1) (k := prim1 .isN) (fun _ _ _ _ _ _ _ _ r hx h => isN_ok r hx h) q
      exact Sp.mono q2 fun x H1 q3 => ⟨rfl, q3⟩
    · cases h
  | .op1 .notN a, c, e, X, T, W, J, h => by
    refine pe_strip ?_
    unfold chE at h
    split at h
    · rename_i e1
      rw [e1]
      refine PE.imp (pe_cmpR op_notN (soE a J h) pe_non (nomark _)) fun σ H Q q => ?_
      have q2 := sp_un (r1 := fun x H1 Q => Q (.bl (!decide (x = .non))) H1) (k := prim1 .notN) (fun _ _ _ _ _ _ _ _ r hx h => notN_ok r hx h) q
      exact Sp.mono q2 fun x H1 q3 => ⟨rfl, q3⟩
    · cases h
  | .and a b, c, e, X, T, W, J, h => by
    refine pe_strip ?_
    unfold chE at h
    split at h
    · rename_i e1
      rw [e1]
      rw [Bool.and_eq_true] at h
      exact PE.imp (pe_and (soE a J h.1) (soE b J h.2)) fun _ _ _ q => sp_and q
    · cases h
  | .or a b, c, e, X, T, W, J, h => by
    refine pe_strip ?_
    unfold chE at h
    split at h
    · rename_i e1
      rw [e1]
      rw [Bool.and_eq_true] at h
      exact PE.imp (pe_or (soE a J h.1) (soE b J h.2)) fun _ _ _ q => sp_or q
    · cases h
  | .chain o p a b d, c, e, X, T, W, J, h => by
    refine pe_strip ?_
    unfold chE at h
    split at h
    · rename_i e1
      rw [e1]
      simp only [Bool.and_eq_true] at h
      obtain ⟨⟨⟨⟨⟨⟨h1, h2⟩, h3⟩, h4⟩, h5⟩, h6⟩, h7⟩ := h
      have e2 := cmpO_is h1
      have e3 := cmpO_is h2
      refine PE.imp (pe_chain (op_cmp J.un e2) (op_cmp J.un e3) (soE a J h3) (soE b J h4) (soE d J h5) (set_mark h7)) fun _ _ _ q => ?_
      rw [J.hK]
      exact sp_chain (fun _ _ _ _ _ _ _ _ _ _ => op_ok o) (fun _ _ _ _ _ _ _ _ _ _ => op_ok p) q
    · cases h
  | .ife t a b, c, e, X, T, W, J, h => by
    refine pe_strip ?_
    unfold chE at h
    split at h
    · rename_i e1
      rw [e1]
      simp only [Bool.and_eq_true] at h
      exact PE.imp (pe_ifExp (soT t J h.1.1).1 (soE a J h.1.2) (soE b J h.2)) fun _ _ _ q => sp_if q
    · cases h
  | .idx a b, c, e, X, T, W, J, h => by
    refine pe_strip ?_
    unfold chE at h
    split at h
    · rename_i e1
      rw [e1]
      simp only [Bool.and_eq_true] at h
      refine PE.imp (pe_ix (ix_3 (by have := J.un; omega)) (soE a J h.1.1) (soE b J h.1.2) (plain_ix h.2)) fun _ _ _ q => ?_
      rw [J.hK]
      exact sp_op1 (k := idxD) (fun _ _ _ _ _ _ _ _ _ _ r hx hy h => idx_ok r hx hy h) q
    · cases h
  | .sl a lo hi, c, e, X, T, W, J, h => by
    refine pe_strip ?_
    unfold chE at h
    split at h
    · rename_i e1
      rw [e1]
      simp only [Bool.and_eq_true] at h
      refine PE.imp (pe_slice sl_2 (soE a J h.1.1) (soO lo J h.1.2) (soO hi J h.2)) fun _ _ _ q => ?_
      rw [J.hK]
      exact sp_sl q
    · cases h
  | .rev a, c, e, X, T, W, J, h => by
    refine pe_strip ?_
    unfold chE at h
    split at h
    · rename_i e1
      rw [e1]
      refine PE.imp (pe_revL (soE a J h)) fun _ _ _ q => ?_
      rw [J.hK]
      exact sp_rev q
    · cases h
  | .call f es, c, e, X, T, W, J, h => by
    refine pe_strip ?_
    unfold chE at h
    split at h
    · rename_i e1
      rw [e1]
      simp only [Bool.and_eq_true] at h
      obtain ⟨⟨h1, h2⟩, h3⟩ := h
      obtain ⟨n1, n2, n3⟩ := nmB_at h1
      obtain ⟨a, m1, m2⟩ := J.mf.fnv _ _ n3
      obtain ⟨fd, ps, F, kp, hb⟩ := J.fo h2 _ _ m2
      have hst := chEs_star h3
      rw [List.all_cons, Bool.and_eq_true] at hst
      exact PE.imp (pe_callS F (J.rm h2) (J.gl n1) m1 kp hb (fun σ => passAt J.tk σ) (soA es J h3) (okN_d n2).1 (star_cons hst.1) (star_pl hst.2)) fun _ _ _ q => sp_call q
    · cases h
  | .callv i es, c, e, X, T, W, J, h => by
    refine pe_strip ?_
    unfold chE at h
    split at h
    · rename_i e1
      rw [e1]
      simp only [Bool.and_eq_true] at h
      obtain ⟨⟨h1, h2⟩, h3⟩ := h
      obtain ⟨v1, v2, v3, v4⟩ := J.visV h1
      have hst := chEs_star h3
      rw [List.all_cons, Bool.and_eq_true] at hst
      classical
      let S : Addr → Option L2.Sp := fun a => if hk : ∃ k, T.fa k = some a then some (spF T (g.φ hk.choose)) else none
      refine PE.imp (pe_callAS (S := S) (E := WE W) (fun a sp hS => ?_) (J.rm h2) v1 v2 (fun σ => passAt J.tk σ) (soA es J h3) v3 v4 (star_cons hst.1) (star_pl hst.2)) fun _ _ _ q => sp_callv (φ := g.φ) (fun k a hk => ?_) q
      · by_cases hk : ∃ k, T.fa k = some a
        · simp only [S, dif_pos hk] at hS
          cases hS
          exact J.fo h2 _ _ hk.choose_spec
        · simp only [S, dif_neg hk] at hS
          cases hS
      · have hk' : ∃ k, T.fa k = some a := ⟨k, hk⟩
        simp only [S, dif_pos hk']
        rw [J.mf.inj _ _ _ hk'.choose_spec hk]
    · cases h
  | .lrg1 a, c, e, X, T, W, J, h => by
    refine pe_strip ?_
    unfold chE at h
    split at h
    · rename_i e1
      rw [e1]
      simp only [Bool.and_eq_true] at h
      obtain ⟨⟨⟨⟨h1, h2⟩, h3⟩, h4⟩, h5⟩ := h
      obtain ⟨rfl, n1, n2⟩ := bltB_at h1
      obtain ⟨rfl, n3, n4⟩ := bltB_at h2
      refine PE.imp (pe_listRg (J.cm h3) (J.gl n1) (J.mf.blt _ (by decide +kernel)) (prg_1 (J.gl n3) (J.mf.blt _ (by decide +kernel)) (soE a J h4) (star_cons h5)) rfl) fun _ _ _ q => ?_
      exact sp_rg1 (fs := fun ρ => (ev g a ρ).bd fun v ρ1 => .ok [v] ρ1) (Sp.to q fun ρ => by rw [Rs.bd_assoc]; rfl) fun _ => rfl
    · cases h
  | .lrg2 a b, c, e, X, T, W, J, h => by
    refine pe_strip ?_
    unfold chE at h
    split at h
    · rename_i e1
      rw [e1]
      simp only [Bool.and_eq_true] at h
      obtain ⟨⟨⟨⟨⟨⟨h1, h2⟩, h3⟩, h4⟩, h5⟩, h6⟩, h7⟩ := h
      obtain ⟨rfl, n1, n2⟩ := bltB_at h1
      obtain ⟨rfl, n3, n4⟩ := bltB_at h2
      refine PE.imp (pe_listRg (J.cm h3) (J.gl n1) (J.mf.blt _ (by decide +kernel)) (prg_2 (J.gl n3) (J.mf.blt _ (by decide +kernel)) (soE a J h4) (soE b J h6) (star_cons h5) (star_cons h7) (star_pl (by rw [List.all_cons, h7]; rfl))) rfl) fun _ _ _ q => ?_
      exact sp_rg2 (fs := fun ρ => (ev g a ρ).bd fun v ρ1 => (ev g b ρ1).bd fun w ρ2 => .ok [v, w] ρ2) (Sp.to q fun ρ => by rw [Rs.bd_assoc]; congr 1; funext v ρ1; rw [Rs.bd_assoc]; rfl) fun _ => rfl
    · cases h
  | .bi b es, c, e, X, T, W, J, h => by
    refine pe_strip ?_
    unfold chE at h
    split at h
    · rename_i e1
      rw [e1]
      simp only [Bool.and_eq_true] at h
      obtain ⟨⟨⟨h1, h2⟩, h3⟩, h4⟩ := h
      obtain ⟨rfl, n1, n2⟩ := bltB_at h1
      have hst := chEs_star h4
      rw [List.all_cons, Bool.and_eq_true] at hst
      refine PE.imp (pe_bi b h2 (J.cm h3) (J.gl n1) (J.mf.blt _ (biN_mem b)) (soA es J h4) (star_cons hst.1) (star_pl hst.2)) fun _ _ _ q => ?_
      rw [J.hK]
      exact sp_bi h2 q
    · cases h
  | .isi t a, c, e, X, T, W, J, h => by
    refine pe_strip ?_
    unfold chE at h
    split at h
    · rename_i e1
      rw [e1]
      simp only [Bool.and_eq_true] at h
      obtain ⟨⟨⟨h1, h2⟩, h3⟩, h4⟩ := h
      obtain ⟨rfl, n1, n2⟩ := bltB_at h1
      obtain ⟨rfl, n3, n4⟩ := bltB_at h2
      refine PE.imp (pe_callB call_isi (J.gl n1) (J.mf.blt _ (by decide +kernel)) boot_isinstance (pa_cons (soE a J h3) (pa_cons (J.bltn (v := .ty (tyN t)) n3 n4 (J.mf.blt _ (tyS_mem t)) (boot_ty t) rfl) pa_nil rfl) (star_cons h4)) (by decide) (by decide) (star_cons h4) rfl) fun _ _ _ q => ?_
      rw [J.hK]
      exact sp_isi q
    · cases h
  | .isx i k, c, e, X, T, W, J, h => by
    refine pe_strip ?_
    unfold chE at h
    split at h
    · rename_i e1
      rw [e1]
      simp only [Bool.and_eq_true, Bool.or_eq_true] at h
      obtain ⟨⟨⟨h1, h2⟩, h3⟩, h4⟩ := h
      obtain ⟨rfl, n1, n2⟩ := bltB_at h1
      obtain ⟨a, D, hc, hpx⟩ := J.sx h3
      rcases h4 with h4 | h4
      · obtain ⟨m1, m2, m3⟩ := nmB_at h4
        obtain ⟨C, k1, k2, k3⟩ := J.mf.cls _ _ m3
        refine PE.imp (pe_callB hc (J.gl n1) (J.mf.blt _ (by decide +kernel)) boot_isinstance (pa_cons (J.rdV h2) (pa_cons (J.glob (v := .ref C) m1 m2 k1 rfl) pa_nil rfl) rfl) (by decide) (by decide) rfl rfl) fun _ _ _ q => ?_
        rw [J.hK]
        rw [J.hK] at k3
        exact sp_isx hpx (fun u hu => by cases hu; rfl) (fun j D' hj => (k3 j D' hj).1) q
      · obtain ⟨m1, m2, m3⟩ := nmB_at h4
        obtain ⟨n, k1, k2, k3⟩ := J.mf.cbl _ _ m3
        refine PE.imp (pe_callB hc (J.gl n1) (J.mf.blt _ (by decide +kernel)) boot_isinstance (pa_cons (J.rdV h2) (pa_cons (J.bltn (v := .ty n) m1 m2 k2 k1 rfl) pa_nil rfl) rfl) (by decide) (by decide) rfl rfl) fun _ _ _ q => ?_
        rw [J.hK]
        rw [J.hK] at k3
        exact sp_isx hpx (fun u hu => by cases hu; rfl) (fun j D' hj => (k3 j D' hj).1) q
    · cases h
  | .mth .index a es, c, e, X, T, W, J, h => by
    refine pe_strip ?_
    unfold chE at h
    split at h
    · rename_i e1
      rw [e1]
      simp only [Bool.and_eq_true] at h
      obtain ⟨⟨⟨⟨h1, h2⟩, h3⟩, h4⟩, h5⟩ := h
      cases beq_iff_eq.mp h1
      have hst := chEs_star h4
      rw [List.all_cons, Bool.and_eq_true] at hst
      refine PE.imp (pe_bm PySem.F.plainAttrs_list PySem.F.slot_list_index PySem.F.type_list_index (mt_indexD J.un) (soE a J h2) (soA es J h4) (attr_base h3) (few1 hst.1) h5 (star_cons hst.1) rfl) fun _ _ _ q => ?_
      rw [J.hK]
      exact sp_index q
    · cases h
  | .mth .count a es, c, e, X, T, W, J, h => by
    refine pe_strip ?_
    unfold chE at h
    split at h
    · rename_i e1
      rw [e1]
      simp only [Bool.and_eq_true] at h
      obtain ⟨⟨⟨⟨h1, h2⟩, h3⟩, h4⟩, h5⟩ := h
      cases beq_iff_eq.mp h1
      have hst := chEs_star h4
      rw [List.all_cons, Bool.and_eq_true] at hst
      refine PE.imp (pe_bm PySem.F.plainAttrs_list PySem.F.slot_list_count PySem.F.type_list_count (mt_countD J.un) (soE a J h2) (soA es J h4) (attr_base h3) (few1 hst.1) h5 (star_cons hst.1) rfl) fun _ _ _ q => ?_
      rw [J.hK]
      exact sp_count q
    · cases h
  | .mth .get1 a (.cons b .nil), c, e, X, T, W, J, h => by
    refine pe_strip ?_
    unfold chE at h
    split at h
    · rename_i e1
      rw [e1]
      simp only [Bool.and_eq_true] at h
      obtain ⟨⟨⟨⟨⟨h1, h2⟩, h3⟩, h4⟩, h5⟩, h6⟩ := h
      cases beq_iff_eq.mp h1
      exact PE.imp (pe_dget1 (by have := J.un; omega) (soE a J h2) (soE b J h4) ⟨attr_base h3, few1 h5, h6, by rw [star_cons h5]; rfl⟩) fun _ _ _ q => sp_get1 q
    · cases h
  | .mth .get2 a (.cons b (.cons d .nil)), c, e, X, T, W, J, h => by
    refine pe_strip ?_
    unfold chE at h
    split at h
    · rename_i e1
      rw [e1]
      simp only [Bool.and_eq_true] at h
      obtain ⟨⟨⟨⟨⟨⟨⟨h1, h2⟩, h3⟩, h4⟩, h5⟩, h6⟩, h7⟩, h8⟩ := h
      cases beq_iff_eq.mp h1
      exact PE.imp (pe_dget2 (by have := J.un; omega) (soE a J h2) (soE b J h4) (soE d J h6) ⟨attr_base h3, few2 h5 h7, h8, by rw [star_cons h5, star_cons h7]; rfl⟩) fun _ _ _ q => sp_get2 (Sp.to q fun ρ => by
        show ((ev g a ρ).bd fun x ρ1 => _) = ((ev g a ρ).bd fun x ρ1 => if mtK .get2 (rd x ρ1) then ((ev g b ρ1).bd fun v ρ1 => ((ev g d ρ1).bd fun v2 ρ2 => .ok [v2] ρ2).bd fun vs ρ2 => .ok (v :: vs) ρ2).bd fun vs ρ2 => lift2 (mtD .get2 (rd x ρ2) (vs.map fun v => rd v ρ2)) ρ2 else .no)
        congr 1; funext x ρ1; congr 2; congr 1; funext v ρ2; rw [Rs.bd_assoc]; rfl)
    · cases h
  | .mth .get1 a .nil, c, e, X, T, W, J, h => by unfold chE at h; cases h
  | .mth .get1 a (.cons b (.cons d es)), c, e, X, T, W, J, h => by unfold chE at h; cases h
  | .mth .get2 a .nil, c, e, X, T, W, J, h => by unfold chE at h; cases h
  | .mth .get2 a (.cons b .nil), c, e, X, T, W, J, h => by unfold chE at h; cases h
  | .mth .get2 a (.cons b (.cons d (.cons d2 es))), c, e, X, T, W, J, h => by unfold chE at h; cases h
  | .pop i, c, e, X, T, W, J, h => by
    refine pe_strip ?_
    unfold chE at h
    split at h
    · rename_i e1
      rw [e1]
      simp only [Bool.and_eq_true] at h
      obtain ⟨⟨h1, h2⟩, h3⟩ := h
      cases beq_iff_eq.mp h1
      refine PE.imp (pe_bm0 PySem.F.plainAttrs_list PySem.F.slot_list_pop PySem.F.type_list_pop mt_pop (J.rdV h2) rfl h3) fun _ _ _ q => ?_
      rw [J.hK]
      exact sp_pop q
    · cases h
  | .popAt i a, c, e, X, T, W, J, h => by
    refine pe_strip ?_
    unfold chE at h
    split at h
    · rename_i e1
      rw [e1]
      simp only [Bool.and_eq_true] at h
      obtain ⟨⟨⟨⟨h1, h2⟩, h3⟩, h4⟩, h5⟩ := h
      cases beq_iff_eq.mp h1
      refine PE.imp (pe_bm PySem.F.plainAttrs_list PySem.F.slot_list_pop PySem.F.type_list_pop mt_popAt (J.rdV h2) (pa_cons (soE a J h3) pa_nil (star_cons h4)) rfl (few1 h4) h5 (star_cons h4) rfl) fun _ _ _ q => ?_
      rw [J.hK]
      exact sp_popAt q
    · cases h
  | .comp vs elt tg it ts, c, e, X, T, W, J, h => by
    refine pe_strip ?_
    unfold chE at h
    split at h
    · rename_i e1
      rw [e1]
      simp only [Bool.and_eq_true] at h
      obtain ⟨⟨⟨⟨⟨⟨⟨h1, h2⟩, h3⟩, h4⟩, h5⟩, h6⟩, h7⟩, h8⟩ := h
      have ok := J.blkOk h2
      refine PE.imp (pe_lc (own := ownOf c vs) (J.cm h1) J.nd' (soI it J h5) ok (fun s H C cl fp => soG tg (J.blk ok s H C cl fp) h6) (fun s H C cl fp => soTs ts (J.blk ok s H C cl fp) h7) (fun s H C cl fp => soE elt (J.blk ok s H C cl fp) h8) (set_fold h4)) fun _ _ _ q => ?_
      rw [own_snd]
      exact sp_comp (mem_all h3) q
    · cases h
  | .dcomp vs k v tg it ts, c, e, X, T, W, J, h => by
    refine pe_strip ?_
    unfold chE at h
    split at h
    · rename_i e1
      rw [e1]
      simp only [Bool.and_eq_true] at h
      obtain ⟨⟨⟨⟨⟨⟨⟨⟨h1, h2⟩, h3⟩, h4⟩, h5⟩, h6⟩, h7⟩, h8⟩, h9⟩ := h
      have ok := J.blkOk h2
      refine PE.imp (pe_dc (own := ownOf c vs) (J.cm h1) J.nd' (soI it J h5) ok (fun s H C cl fp => soG tg (J.blk ok s H C cl fp) h6) (fun s H C cl fp => soTs ts (J.blk ok s H C cl fp) h7) (fun s H C cl fp => soE k (J.blk ok s H C cl fp) h8) (fun s H C cl fp => soE v (J.blk ok s H C cl fp) h9) (set_fold h4)) fun _ _ _ q => ?_
      rw [own_snd]
      exact sp_dcomp (mem_all h3) q
    · cases h
theorem soA : ∀ (xs : Exs) {c : CC} {es : List Expr} {X : Cx} {T : Tb} {W : WX}, GX X T W g c lev → chEs c xs es = true → PA X es (SpA T W (evs g xs))
  | .nil, c, [], X, T, W, J, h => PA.imp pa_nil fun _ _ _ q => spA_nil q
  | .cons x xs, c, e :: es, X, T, W, J, h => by
    unfold chEs at h
    simp only [Bool.and_eq_true] at h
    exact PA.imp (pa_cons (soE x J h.1.1) (soA xs J h.2) (star_cons h.1.2)) fun _ _ _ q => spA_cons q
  | .nil, c, _ :: _, X, T, W, J, h => by unfold chEs at h; cases h
  | .cons _ _, c, [], X, T, W, J, h => by unfold chEs at h; cases h
theorem soT : ∀ (t : Te) {c : CC} {e : Expr} {X : Cx} {T : Tb} {W : WX}, GX X T W g c lev → chT c t e = true → PT X e (SpT T W (et g t)) ∧ ((∃ op vs pos, e = .BoolOp op vs pos) → PW X e (SpT T W (et g t)))
  | .val x, c, e, X, T, W, J, h => by
    have h : (chC c x e || (chE c x e && plainT e)) = true := h
    rw [Bool.or_eq_true] at h
    rcases h with h | h
    · obtain ⟨q1, q2⟩ := soC x J h
      exact ⟨q1, fun z => absurd z q2⟩
    · rw [Bool.and_eq_true] at h
      refine ⟨PT.imp (pt_val (soE x J h.1) (plain_true h.2)) fun _ _ _ q => spT_val q, fun ⟨_, _, _, z⟩ => ?_⟩
      rw [z] at h
      cases h.2
  | .tru x, c, e, X, T, W, J, h => by
    have h : (chE c x e && plainT e) = true := h
    rw [Bool.and_eq_true] at h
    refine ⟨PT.imp (pt_truth (soE x J h.1) (plain_true h.2)) fun _ _ _ q => ?_, fun ⟨_, _, _, z⟩ => ?_⟩
    · rw [J.hK]
      exact spT_tru q
    · rw [z] at h
      cases h.2
  | .not t, c, e, X, T, W, J, h => by
    unfold chT at h
    split at h
    · exact ⟨PT.imp (pt_not (soT t J h).1) fun _ _ _ q => spT_not q, fun ⟨_, _, _, z⟩ => nomatch z⟩
    · cases h
  | .and t u, c, e, X, T, W, J, h => by
    unfold chT at h
    split at h
    · rw [Bool.and_eq_true] at h
      exact pw_both (PW.imp (pw_and (soT t J h.1).1 (pw_and1 (soT u J h.2).1)) fun _ _ _ q => spT_and q)
    · rw [Bool.and_eq_true] at h
      exact pw_both (PW.imp (pw_and (soT t J h.1).1 ((soT u J h.2).2 ⟨_, _, _, rfl⟩)) fun _ _ _ q => spT_and q)
    · cases h
  | .or t u, c, e, X, T, W, J, h => by
    unfold chT at h
    split at h
    · rw [Bool.and_eq_true] at h
      exact pw_both (PW.imp (pw_or (soT t J h.1).1 (pw_or1 (soT u J h.2).1)) fun _ _ _ q => spT_or q)
    · rw [Bool.and_eq_true] at h
      exact pw_both (PW.imp (pw_or (soT t J h.1).1 ((soT u J h.2).2 ⟨_, _, _, rfl⟩)) fun _ _ _ q => spT_or q)
    · cases h
theorem soC : ∀ (x : Ex) {c : CC} {e : Expr} {X : Cx} {T : Tb} {W : WX}, GX X T W g c lev → chC c x e = true → PT X e (SpT T W (fun ρ => (ev g x ρ).bd fun x ρ1 => toB (rd x ρ1) ρ1)) ∧ ¬ ∃ op vs pos, e = .BoolOp op vs pos
  | .op2 o a b, c, e, X, T, W, J, h => by
    unfold chC at h
    split at h
    · simp only [Bool.and_eq_true] at h
      obtain ⟨⟨⟨h1, h2⟩, h3⟩, h4⟩ := h
      have e2 := cmpO_is h1
      refine ⟨PT.imp (pt_cmpR (op_cmp J.un e2) (soE a J h2) (soE b J h3) (set_mark h4)) fun _ _ _ q => ?_, fun ⟨_, _, _, z⟩ => nomatch z⟩
      rw [J.hK]
      exact sp_op (fun _ _ _ _ _ _ _ _ _ _ => op_ok _) (spT_val q)
    · cases h
  | .op1 .isN a, c, e, X, T, W, J, h => by
    unfold chC at h
    split at h
    · refine ⟨PT.imp (pt_cmpR op_isN (soE a J h) pe_non (nomark _)) fun σ H Q q => ?_, fun ⟨_, _, _, z⟩ => nomatch z⟩
      have q2 := sp_un (r1 := fun x H1 Q => Q (.bl (decide (x = .non))) H1) (k := prim1 .isN) (fun _ _ _ _ _ _ _ _ r hx h => isN_ok r hx h) (spT_val q)
      exact Sp.mono q2 fun x H1 q3 => ⟨rfl, q3⟩
    · cases h
  | .op1 .notN a, c, e, X, T, W, J, h => by
    unfold chC at h
    split at h
    · refine ⟨PT.imp (pt_cmpR op_notN (soE a J h) pe_non (nomark _)) fun σ H Q q => ?_, fun ⟨_, _, _, z⟩ => nomatch z⟩
      have q2 := sp_un (r1 := fun x H1 Q => Q (.bl (!decide (x = .non))) H1) (k := prim1 .notN) (fun _ _ _ _ _ _ _ _ r hx h => notN_ok r hx h) (spT_val q)
      exact Sp.mono q2 fun x H1 q3 => ⟨rfl, q3⟩
    · cases h
  | .chain o p a b d, c, e, X, T, W, J, h => by
    unfold chC at h
    split at h
    · simp only [Bool.and_eq_true] at h
      obtain ⟨⟨⟨⟨⟨⟨h1, h2⟩, h3⟩, h4⟩, h5⟩, h6⟩, h7⟩ := h
      have e2 := cmpO_is h1
      have e3 := cmpO_is h2
      refine ⟨PT.imp (pt_chain (op_cmp J.un e2) (op_cmp J.un e3) (soE a J h3) (soE b J h4) (soE d J h5) (set_mark h7)) fun _ _ _ q => ?_, fun ⟨_, _, _, z⟩ => nomatch z⟩
      rw [J.hK]
      exact sp_chain (fun _ _ _ _ _ _ _ _ _ _ => op_ok _) (fun _ _ _ _ _ _ _ _ _ _ => op_ok _) (spT_val q)
    · cases h
  | .non, c, e, X, T, W, J, h => by unfold chC at h; cases h
  | .bl _, c, e, X, T, W, J, h => by unfold chC at h; cases h
  | .int _, c, e, X, T, W, J, h => by unfold chC at h; cases h
  | .str _, c, e, X, T, W, J, h => by unfold chC at h; cases h
  | .var _, c, e, X, T, W, J, h => by unfold chC at h; cases h
  | .gc _, c, e, X, T, W, J, h => by unfold chC at h; cases h
  | .fnv _, c, e, X, T, W, J, h => by unfold chC at h; cases h
  | .tup _, c, e, X, T, W, J, h => by unfold chC at h; cases h
  | .lst _, c, e, X, T, W, J, h => by unfold chC at h; cases h
  | .dnew _, c, e, X, T, W, J, h => by unfold chC at h; cases h
  | .op1 .neg _, c, e, X, T, W, J, h => by unfold chC at h; cases h
  | .op1 .not _, c, e, X, T, W, J, h => by unfold chC at h; cases h
  | .and _ _, c, e, X, T, W, J, h => by unfold chC at h; cases h
  | .or _ _, c, e, X, T, W, J, h => by unfold chC at h; cases h
  | .ife _ _ _, c, e, X, T, W, J, h => by unfold chC at h; cases h
  | .idx _ _, c, e, X, T, W, J, h => by unfold chC at h; cases h
  | .sl _ _ _, c, e, X, T, W, J, h => by unfold chC at h; cases h
  | .rev _, c, e, X, T, W, J, h => by unfold chC at h; cases h
  | .call _ _, c, e, X, T, W, J, h => by unfold chC at h; cases h
  | .callv _ _, c, e, X, T, W, J, h => by unfold chC at h; cases h
  | .bi _ _, c, e, X, T, W, J, h => by unfold chC at h; cases h
  | .lrg1 _, c, e, X, T, W, J, h => by unfold chC at h; cases h
  | .lrg2 _ _, c, e, X, T, W, J, h => by unfold chC at h; cases h
  | .isi _ _, c, e, X, T, W, J, h => by unfold chC at h; cases h
  | .isx _ _, c, e, X, T, W, J, h => by unfold chC at h; cases h
  | .mth _ _ _, c, e, X, T, W, J, h => by unfold chC at h; cases h
  | .pop _, c, e, X, T, W, J, h => by unfold chC at h; cases h
  | .popAt _ _, c, e, X, T, W, J, h => by unfold chC at h; cases h
  | .comp _ _ _ _ _, c, e, X, T, W, J, h => by unfold chC at h; cases h
  | .dcomp _ _ _ _ _ _, c, e, X, T, W, J, h => by unfold chC at h; cases h
theorem soTs : ∀ (t : Tes) {c : CC} {es : List Expr} {X : Cx} {T : Tb} {W : WX}, GX X T W g c lev → chTs c t es = true → PTs X es (SpT T W (ets g t))
  | .nil, c, [], X, T, W, J, h => PTs.imp pts_nil fun _ _ _ q => spT_yes q
  | .one t, c, [e], X, T, W, J, h => pts_one (soT t J h).1
  | .nil, c, _ :: _, X, T, W, J, h => by unfold chTs at h; cases h
  | .one _, c, [], X, T, W, J, h => by unfold chTs at h; cases h
  | .one _, c, _ :: _ :: _, X, T, W, J, h => by unfold chTs at h; cases h
theorem soI : ∀ (i : It) {c : CC} {e tg : Expr} {X : Cx} {T : Tb} {W : WX}, GX X T W g c lev → chI c i e tg = true → PI X tg e (SpI T W (ei g i))
  | .val x, c, e, tg, X, T, W, J, h => pi_val J.hK (soE x J (by unfold chI at h; exact h))
  | .keys i, c, e, tg, X, T, W, J, h => by
    unfold chI at h
    split at h
    · exact PI.imp (pi_keysS (J.rdV h)) fun _ _ _ q => spI_keys q
    · cases h
  | .rng1 a, c, e, tg, X, T, W, J, h => by
    unfold chI at h
    split at h
    · simp only [Bool.and_eq_true] at h
      obtain ⟨⟨h1, h2⟩, h3⟩ := h
      obtain ⟨rfl, n1, n2⟩ := bltB_at h1
      exact PI.imp (pi_range1 (J.gl n1) (J.mf.blt _ (by decide +kernel)) (pa_cons (soE a J h2) pa_nil (star_cons h3)) (star_cons h3)) fun _ _ _ q => spI_rng1 q
    · cases h
  | .rng2 a b, c, e, tg, X, T, W, J, h => by
    unfold chI at h
    split at h
    · simp only [Bool.and_eq_true] at h
      obtain ⟨⟨⟨⟨h1, h2⟩, h3⟩, h4⟩, h5⟩ := h
      obtain ⟨rfl, n1, n2⟩ := bltB_at h1
      exact PI.imp (pi_range2 (J.gl n1) (J.mf.blt _ (by decide +kernel)) (pa_cons (soE a J h2) (pa_cons (soE b J h4) pa_nil (star_cons h5)) (star_cons h3)) (by rw [star_cons h3, star_cons h5]; rfl) (star_cons h5)) fun _ _ _ q => spI_rng2 q
    · cases h
  | .rng3 _ _ _, c, e, tg, X, T, W, J, h => by unfold chI at h; cases h
  | .zip a b, c, e, tg, X, T, W, J, h => by
    unfold chI at h
    split at h
    · simp only [Bool.and_eq_true] at h
      obtain ⟨⟨⟨⟨h1, h2⟩, h3⟩, h4⟩, h5⟩ := h
      obtain ⟨rfl, n1, n2⟩ := bltB_at h1
      refine PI.imp (RZ.pi_zipA (J.gl n1) (J.mf.blt _ (by decide +kernel)) (pa_cons (soE a J h2) (pa_cons (soE b J h4) pa_nil (star_cons h5)) (star_cons h3)) (star_cons h3) (star_pl (by rw [List.all_cons, h5]; rfl))) fun _ _ _ q => ?_
      rw [J.hK]
      exact spI_zip q
    · cases h
  | .enm a, c, e, tg, X, T, W, J, h => by
    unfold chI at h
    split at h
    · simp only [Bool.and_eq_true] at h
      obtain ⟨⟨h1, h2⟩, h3⟩ := h
      obtain ⟨rfl, n1, n2⟩ := bltB_at h1
      refine PI.imp (pi_enm (J.gl n1) (J.mf.blt _ (by decide +kernel)) (pa_cons (soE a J h2) pa_nil (star_cons h3)) (star_cons h3)) fun _ _ _ q => ?_
      rw [J.hK]
      exact spI_enm2 q
    · cases h
theorem soG : ∀ (t : Tg) {c : CC} {e : Expr} {X : Cx} {T : Tb} {W : WX}, GX X T W g c lev → chG c t e = true → PG X e (SpG T W (tgVs t) (bind g t))
  | .v i, c, e, X, T, W, J, h => by
    unfold chG at h
    split at h
    · obtain ⟨n1, n2, n3⟩ := J.stV h
      exact PG.imp (pg_name J.nd' n1 n2 n3) fun _ _ _ _ q => sg_v q
    · cases h
  | .t ts, c, e, X, T, W, J, h => by
    unfold chG at h
    split at h
    · rw [Bool.and_eq_true] at h
      refine PG.imp (pg_tup (n := tgn ts) (J.cm h.1) (soGs ts J h.2) (chGs_len h.2) (chGs_star h.2)) fun _ _ _ _ q => ?_
      rw [J.hK]
      exact sg_t (fun d ρ hd => by cases d <;> first | rfl | exact absurd rfl (hd _)) (fun xs ρ => rfl) q
    · cases h
  | .ix i k, c, e, X, T, W, J, h => by
    unfold chG at h
    split at h
    · simp only [Bool.and_eq_true] at h
      obtain ⟨⟨h1, h2⟩, h3⟩ := h
      exact PG.imp (pg_sub (J.rdV h1) (soE k J h2) (set_2 (by have := J.un; omega)) (sub_asg h3)) fun _ _ _ _ q => sg_ix q
    · cases h
theorem soGs : ∀ (ts : Tgs) {c : CC} {es : List Expr} {X : Cx} {T : Tb} {W : WX}, GX X T W g c lev → chGs c ts es = true → PGs X es (SpGs T W (tgVs.tgsVs ts) (binds g ts))
  | .nil, c, [], X, T, W, J, h => PGs.imp pgs_nil fun _ _ _ _ q => sgs_nil (fun _ _ _ => rfl) (fun _ => rfl) q
  | .cons t ts, c, e :: es, X, T, W, J, h => by
    unfold chGs at h
    simp only [Bool.and_eq_true] at h
    exact PGs.imp (pgs_cons (soG t J h.1.1) (soGs ts J h.2) (asg_cons h.1.2)) fun _ _ _ _ q => sgs_cons (fun _ => rfl) (fun _ _ _ => rfl) (fun j hj => List.mem_append_left _ hj) (fun j hj => List.mem_append_right _ hj) q
  | .nil, c, _ :: _, X, T, W, J, h => by unfold chGs at h; cases h
  | .cons _ _, c, [], X, T, W, J, h => by unfold chGs at h; cases h
theorem soO : ∀ (o : Ox) {c : CC} {e : Option Expr} {X : Cx} {T : Tb} {W : WX}, GX X T W g c lev → chO c o e = true → PO X e (SpO T W (eo g o))
  | .no, c, none, X, T, W, J, h => PO.imp po_none fun _ _ _ q => spO_no q
  | .so x, c, some e, X, T, W, J, h => by
    unfold chO at h
    exact PO.imp (po_some (soE x J h)) fun _ _ _ q => spO_so q
  | .no, c, some _, X, T, W, J, h => by unfold chO at h; cases h
  | .so _, c, none, X, T, W, J, h => by unfold chO at h; cases h
end
end
end G
set_option maxHeartbeats 4000000
/-! F32: the checker for statements. -/
namespace G
open PySem L2 PySem.Spec PyProof.Rows
/-- the scope of a comprehension -/
def compSc : Expr → Option Scope
  | .ListComp _ _ s _ => some s
  | .DictComp _ _ _ s _ => some s
  | _ => none
/-- name = comprehension: it is stored in place of the block's own names -/
def swB (c : CC) (x : Str) (px : Pos) (e : Expr) : Bool := match compSc e with
  | some s => isLocal c.sc x && (px.line == e.pos.line) && !(s.names.any fun (n, k) => n == x && (k == .local || k == .cell))
  | none => false
def noName : Expr → Bool
  | .Name _ _ => false
  | _ => true
def noTup : Expr → Bool
  | .Tuple _ _ _ => false
  | _ => true
/-- a target that is no local name -/
def badT (c : CC) : Expr → Bool
  | .Name x _ => !isLocal c.sc x
  | _ => true
def nmOf : Expr → Option (Str × Pos)
  | .Name x p => some (x, p)
  | _ => none
/-- a plain local name to be stored to -/
def plB (c : CC) (i : Nat) (x : Str) : Bool := slB c i x && isLocal c.sc x
def chNs (c : CC) : List Nat → List Expr → Bool
  | [], [] => true
  | i :: is, .Name x _ :: es => stB c i x && chNs c is es
  | _, _ => false
/-- stores that are not swapped -/
def unsw (c : CC) (es : List Expr) : Expr → Bool
  | .Tuple es' _ _ => es.any (badT c) || es'.all (foldedForSure 8)
  | _ => true
mutual
def chS (c : CC) : St → Stmt → Bool
  | .asg (.v i) e, st => (match st with
    | .Assign [.Name x px] e' _ => stB c i x && chE c e e' && (noComp e' || (swB c x px e' && c.calm) || (!swB c x px e' && (compSc e').isSome))
    | _ => false)
  | .asg (.t ts) e, st => (match st with | .Assign [.Tuple es _ _] e' _ => c.calm && chGs c ts es && chE c e e' && noComp e' && unsw c es e' | _ => false)
  | .asg (.ix i k) e, st => (match st with | .Assign [.Subscript (.Name x p1) k' p2] e' _ => rdB c i x && chE c k k' && noSl k' && chE c e e' && noComp e' | _ => false)
  | .par [i, j] xs, st => (match st with
    | .Assign [.Tuple [.Name x px, .Name y py] _ _] (.Tuple [a, b] _ _) _ => c.calm && plB c i x && plB c j y && !(i == j) && chEs c xs [a, b] && (py.line == px.line) && ([x, y].eraseDups.length == 2) && !([a, b].all (foldedForSure 8)) && !([a, b].all (constantsAlone 8))
    | _ => false) || (match st with
    | .Assign [.Tuple es _ _] (.Tuple vs k p) _ => c.calm && chNs c [i, j] es && chEs c xs vs && unsw c es (.Tuple vs k p)
    | _ => false)
  | .par [i, j, l] xs, st => (match st with
    | .Assign [.Tuple [.Name x px, .Name y py, .Name z pz] _ _] (.Tuple [a, b, d] _ _) _ => c.calm && plB c i x && plB c j y && plB c l z && !(i == j) && !(i == l) && !(j == l) && chEs c xs [a, b, d] && (py.line == px.line) && (pz.line == px.line) && ([x, y, z].eraseDups.length == 3) && !([a, b, d].all (foldedForSure 8)) && !([a, b, d].all (constantsAlone 8))
    | _ => false) || (match st with
    | .Assign [.Tuple es _ _] (.Tuple vs k p) _ => c.calm && chNs c [i, j, l] es && chEs c xs vs && unsw c es (.Tuple vs k p)
    | _ => false)
  | .par _ _, _ => false
  | .parT _ _, _ => false
  | .app i e, st => (match st with | .Expr (.Call (.Attribute (.Name x p0) m p1) [e'] [] p2) _ => m == ("append" : Str) && rdB c i x && chE c e e' && noStar e' && (p1.endLine == p2.line) | _ => false)
  | .ext i e, st => (match st with | .Expr (.Call (.Attribute (.Name x p0) m p1) [e'] [] p2) _ => m == ("extend" : Str) && rdB c i x && chE c e e' && noStar e' && (p1.endLine == p2.line) | _ => false)
  | .inc i e, st => (match st with | .AugAssign (.Name x _) .Add e' _ => stB c i x && chE c e e' | _ => false)
  | .exp e, st => (match st with | .Expr e' _ => chE c e e' && noComp e' | _ => false)
  | .ret e, st => (match st with | .Return (some e') _ => chE c e e' | _ => false)
  | .retN, st => (match st with | .Return none _ => true | _ => false)
  | .ife t a b, st => (match st with | .If t' a' b' _ => chT c t t' && chSs c a a' && chSs c b b' | _ => false)
  | .for_ tg it b, st => (match st with | .For tg' it' b' [] _ => c.calm && chI c it it' tg' && chG c tg tg' && chSs c b b' && noSet it' | _ => false)
  | .whl t b, st => (match st with | .While t' b' [] _ => c.calm && chT c t t' && chSs c b b' | _ => false)
  | .rai k xs, st => (match st with | .Raise (some (.Call (.Name x _) [] [] _)) none _ => c.calm && nmB c c.nm.C x k && (match xs with | .nil => true | .cons _ _ => false) | _ => false)
  | .try1 b k (some i) h, st => (match st with
    | .Try b' [.ExceptHandler (some (.Name x _)) (some n) (h1 :: hs) _] [] [] _ => c.calm && !c.sx && (nmB c c.nm.C x k || nmB c c.nm.B x k) && plB c i n && chSs c b b' && chSs { c with calm := false, sx := true } h (h1 :: hs)
    | _ => false)
  | .try1 _ _ none _, _ => false
  | .pas, st => (match st with | .Pass _ => true | _ => false)
  | .brk, st => (match st with | .Break _ => true | _ => false)
  | .cnt, st => (match st with | .Continue _ => true | _ => false)
def chSs (c : CC) : Sts → List Stmt → Bool
  | .nil, [] => true
  | .cons s ss, st :: sts => chS c s st && chSs c ss sts
  | .nil, _ :: _ => false
  | .cons _ _, [] => false
end
/-! ### what is swapped -/
theorem swap_c {c : CC} {x : Str} {px : Pos} {e : Expr} {l : Nat} {env : Env} (hs : env.scope = c.sc) (hk : c.sc.kind = .function) (h : (compSc e).isSome = true) : swapsWith e (some (.Name x px)) l env = pure (swB c x px e) := by
  have hb : env.blockKind = .function := by unfold Env.blockKind; rw [hs, hk]; rfl
  have hx : (env.kindOf x == some .local) = isLocal c.sc x := by
    unfold Env.kindOf isLocal
    rw [hs]
    split
    · rename_i q; rw [q]; rfl
    · rename_i q
      cases hq : c.sc.names.lookup x with
      | none => rfl
      | some k => cases k <;> first | rfl | exact absurd hq q
  cases e with
  | ListComp elt gs s pos =>
    show (pure (env.blockKind == .function && env.kindOf x == some .local && px.line == pos.line && !(s.names.any fun (n, k) => n == x && (k == .local || k == .cell))) : Sem Bool) = _
    rw [hb, hx]
    rfl
  | DictComp k v gs s pos =>
    show (pure (env.blockKind == .function && env.kindOf x == some .local && px.line == pos.line && !(s.names.any fun (n, k) => n == x && (k == .local || k == .cell))) : Sem Bool) = _
    rw [hb, hx]
    rfl
  | _ => cases h
theorem swap_no {e : Expr} {t : Expr} {l : Nat} {env : Env} (h : noComp e = true) : swapsWithSole [t] e l env = pure false := comp_sw h
theorem filterMap_lt {α β : Type} {f : α → Option β} : ∀ {l : List α}, (∃ a, a ∈ l ∧ f a = none) → (l.filterMap f).length < l.length
  | [], ⟨a, h, _⟩ => nomatch h
  | x :: l, ⟨a, h, e⟩ => by
    rw [List.filterMap_cons]
    rcases List.mem_cons.mp h with rfl | h
    · rw [e]
      exact Nat.lt_succ_of_le (List.length_filterMap_le f l)
    · cases f x with
      | none => exact Nat.lt_succ_of_lt (filterMap_lt ⟨a, h, e⟩)
      | some y => exact Nat.succ_lt_succ (filterMap_lt ⟨a, h, e⟩)
theorem stores_un {c : CC} {es : List Expr} {k : Nat} {p : Pos} {e : Expr} {env : Env} (hs : env.scope = c.sc) (h : unsw c es e = true) : swappedStores [.Tuple es k p] e env = pure none := by
  cases e with
  | Tuple es' k' p' =>
    have h : (es.any (badT c) || es'.all (foldedForSure 8)) = true := h
    unfold swappedStores
    simp only [pure_bind]
    split
    · rfl
    split
    · rfl
    split
    · rfl
    rename_i hn
    rw [Bool.or_eq_true] at h
    rcases h with h | h
    · exfalso
      rw [List.any_eq_true] at h
      obtain ⟨x, hx, hb⟩ := h
      refine hn ?_
      rw [Bool.or_eq_true]
      left
      rw [bne_iff_ne]
      refine Nat.ne_of_lt (filterMap_lt ⟨x, hx, ?_⟩)
      cases x with
      | Name id pos =>
        have hb : (!isLocal c.sc id) = true := hb
        have hx : (env.kindOf id == some .local) = isLocal c.sc id := by
          unfold Env.kindOf isLocal
          rw [hs]
          split
          · rename_i q; rw [q]; rfl
          · rename_i q
            cases hq : c.sc.names.lookup id with
            | none => rfl
            | some k => cases k <;> first | rfl | exact absurd hq q
        rw [Bool.not_eq_true'] at hb
        show (if (env.kindOf id == some .local && _) = true then some id else none) = none
        rw [hx, hb]
        rfl
      | _ => rfl
    · rw [if_pos h]
  | _ => rfl
theorem kind_local {c : CC} {x : Str} {env : Env} (hs : env.scope = c.sc) (h : isLocal c.sc x = true) : (env.kindOf x == some .local) = true := by
  unfold isLocal at h
  unfold Env.kindOf
  rw [hs]
  split at h
  · rename_i q; rw [q]; rfl
  · cases h
theorem star_any : ∀ {es : List Expr}, es.all noStar = true → (es.any fun
    | .Starred _ _ => true
    | _ => false) = false
  | [], _ => rfl
  | e :: es, h => by
    rw [List.all_cons, Bool.and_eq_true] at h
    rw [List.any_cons, star_any h.2]
    cases e <;> first | rfl | cases h.1
theorem fm2 {f : Expr → Option Str} {a b : Expr} {x y : Str} (h1 : f a = some x) (h2 : f b = some y) : [a, b].filterMap f = [x, y] := by
  rw [List.filterMap_cons, h1, List.filterMap_cons, h2]
  rfl
theorem fm3 {f : Expr → Option Str} {a b c : Expr} {x y z : Str} (h1 : f a = some x) (h2 : f b = some y) (h3 : f c = some z) : [a, b, c].filterMap f = [x, y, z] := by
  rw [List.filterMap_cons, h1, List.filterMap_cons, h2, List.filterMap_cons, h3]
  rfl
theorem stores_par2 {c : CC} {x y : Str} {px py p p2 : Pos} {k k2 : Nat} {a b : Expr} {env : Env} (hs : env.scope = c.sc) (hk : c.sc.kind = .function) (hx : isLocal c.sc x = true) (hy : isLocal c.sc y = true) (hl : (py.line == px.line) = true)
    (he : ([x, y].eraseDups.length == 2) = true) (h1 : [a, b].all (foldedForSure 8) = false) (h2 : [a, b].all (constantsAlone 8) = false) (s1 : noStar a = true) (s2 : noStar b = true) :
    swappedStores [.Tuple [.Name x px, .Name y py] k p] (.Tuple [a, b] k2 p2) env = pure (some [x, y]) := by
  have hb : env.blockKind = .function := by unfold Env.blockKind; rw [hs, hk]; rfl
  have kx := kind_local hs hx
  have ky := kind_local hs hy
  unfold swappedStores
  simp only [pure_bind]
  refine (if_neg (by rw [hb]; exact Bool.false_ne_true)).trans ?_
  refine (if_neg (fun q => Bool.false_ne_true ((star_any (es := [a, b]) (by rw [List.all_cons, List.all_cons, s1, s2]; rfl)).symm.trans q))).trans ?_
  rw [fm2 (x := x) (y := y) (by
    show (if (env.kindOf x == some .local && px.line == px.line) = true then some x else none) = some x
    rw [kx, beq_self_eq_true]; rfl) (by
    show (if (env.kindOf y == some .local && py.line == px.line) = true then some y else none) = some y
    rw [ky, hl]; rfl)]
  refine (if_neg (fun z => ?_)).trans ?_
  · rw [beq_iff_eq.mp he] at z
    exact Bool.false_ne_true z
  refine (if_neg (by rw [h1]; exact Bool.false_ne_true)).trans ?_
  exact if_neg (by rw [h2]; exact Bool.false_ne_true)
theorem stores_par3 {c : CC} {x y z : Str} {px py pz p p2 : Pos} {k k2 : Nat} {a b d : Expr} {env : Env} (hs : env.scope = c.sc) (hk : c.sc.kind = .function) (hx : isLocal c.sc x = true) (hy : isLocal c.sc y = true) (hz : isLocal c.sc z = true) (hl : (py.line == px.line) = true) (hl2 : (pz.line == px.line) = true)
    (he : ([x, y, z].eraseDups.length == 3) = true) (h1 : [a, b, d].all (foldedForSure 8) = false) (h2 : [a, b, d].all (constantsAlone 8) = false) (s1 : noStar a = true) (s2 : noStar b = true) (s3 : noStar d = true) :
    swappedStores [.Tuple [.Name x px, .Name y py, .Name z pz] k p] (.Tuple [a, b, d] k2 p2) env = pure (some [x, y, z]) := by
  have hb : env.blockKind = .function := by unfold Env.blockKind; rw [hs, hk]; rfl
  have kx := kind_local hs hx
  have ky := kind_local hs hy
  have kz := kind_local hs hz
  unfold swappedStores
  simp only [pure_bind]
  refine (if_neg (by rw [hb]; exact Bool.false_ne_true)).trans ?_
  refine (if_neg (fun q => Bool.false_ne_true ((star_any (es := [a, b, d]) (by rw [List.all_cons, List.all_cons, List.all_cons, s1, s2, s3]; rfl)).symm.trans q))).trans ?_
  rw [fm3 (x := x) (y := y) (z := z) (by
    show (if (env.kindOf x == some .local && px.line == px.line) = true then some x else none) = some x
    rw [kx, beq_self_eq_true]; rfl) (by
    show (if (env.kindOf y == some .local && py.line == px.line) = true then some y else none) = some y
    rw [ky, hl]; rfl) (by
    show (if (env.kindOf z == some .local && pz.line == px.line) = true then some z else none) = some z
    rw [kz, hl2]; rfl)]
  refine (if_neg (fun z => ?_)).trans ?_
  · rw [beq_iff_eq.mp he] at z
    exact Bool.false_ne_true z
  refine (if_neg (by rw [h1]; exact Bool.false_ne_true)).trans ?_
  exact if_neg (by rw [h2]; exact Bool.false_ne_true)
end G
set_option maxHeartbeats 16000000
/-! F33: statements keep their readings. -/
namespace G
open PySem L2 PySem.Spec PyProof.Rows
/-- name = {.. : ..} on one line, the name a local -/
theorem ps_setDc {X : Cx} {i : Nat} {y : Str} {py : Pos} {kx vx tg iter : Expr} {ifs : List Expr} {scope : Scope} {own : List (Str × Nat)} {pos spos : Pos} {wi : TI} {g : TG} {tt : TT} {tk tv : TE} (hc : X.calm = true) (hN : X.N.Nodup) (hy : X.N[i]? = some y) (hyl : X.env.scope.names.lookup y = some .local)
    (hsw : swapsWith (.DictComp kx vx [⟨tg, iter, ifs, 0⟩] scope pos) (some (.Name y py)) spos.line X.env = pure true) (hi : PI X tg iter wi) (ok : BlkOk X.N X.env.scope scope own)
    (hg : ∀ (s : Shared) (H : Hp) (C : Addr) (cl : List (Str × Addr)) (fp : List Addr), PG (X.blk s H scope (compEnvC scope cl C X.env) fp) tg g) (ht : ∀ (s : Shared) (H : Hp) (C : Addr) (cl : List (Str × Addr)) (fp : List Addr), PTs (X.blk s H scope (compEnvC scope cl C X.env) fp) ifs tt)
    (hk : ∀ (s : Shared) (H : Hp) (C : Addr) (cl : List (Str × Addr)) (fp : List Addr), PE (X.blk s H scope (compEnvC scope cl C X.env) fp) kx tk)
    (he : ∀ (s : Shared) (H : Hp) (C : Addr) (cl : List (Str × Addr)) (fp : List Addr), PE (X.blk s H scope (compEnvC scope cl C X.env) fp) vx tv) (hs : ∀ x, foldedSetIterable iter X.env x = pure x := by intro _; rfl) :
    PS X (.Assign [.Name y py] (.DictComp kx vx [⟨tg, iter, ifs, 0⟩] scope pos) spos) (tAsg (tDc wi g tt tk tv (own.map (·.2))) (gName i)) := by
  refine ⟨fun pins s σ H D I h => ?_⟩
  rw [exec_Assign_Name_used _ _ _ _ hsw]
  refine wpAny_bind (wpAny_standAt (wpAny_bind ?_))
  show wpAny _ X.A (do let _ ← comprehension (.DictComp kx vx [⟨tg, iter, ifs, 0⟩] scope pos) scope X.env (firstIterPos [⟨tg, iter, ifs, 0⟩] pos) newDict false (eval iter X.env) (some (assign (.Name y py) X.env))) _ _ s
  have h : tDc wi g tt tk tv (own.map (·.2)) σ H (fun x H1 => gName i x σ H1 D.nx) := h
  refine wpAny_bind (thn (dc_core (Qf := fun _ s' => SP X pins D .next s') hc hN I hi ok hg ht hk he hs h fun L C s' m H' I' q hn f => ?_) fun _ s' hq => wpAny_pure (wpAny_pure hq))
  show wpAny _ _ (assign (.Name y py) X.env (.ref L)) _ _ _
  refine wpAny_assign_Name (store_ok2 (v := V.ref L) I' hN hy (.inl hyl) rfl (fun s2 I2 ⟨a, sb, ha⟩ => ?_) (.inr hyl))
  obtain ⟨f0, f1, f2, f3, f4, f5⟩ := f
  have haC : C ≠ a := by
    rcases ha with z | z
    · rw [z]; exact f1
    · exact fun e => f4 y a z e.symm
  refine ⟨m, hn.sameBut sb haC, fun h3 sb3 => ?_⟩
  exact ⟨_, H', I2.turned (t' := s2.toks) (fun b o hb e => (sb3.2 b hb).trans e) f0 f1 f3 f4 f5, q⟩
theorem PS.imp {X : Cx} {st : Stmt} {t t' : TS} (h : PS X st t) (i : ∀ D σ H, t' D σ H → t D σ H) : PS X st t' := ⟨fun pins s σ H D I q => h.run pins s σ H D I (i D σ H q)⟩
theorem PSs.imp {X : Cx} {st : List Stmt} {t t' : TS} (h : PSs X st t) (i : ∀ D σ H, t' D σ H → t D σ H) : PSs X st t' := ⟨fun pins s σ H D I q => h.run pins s σ H D I (i D σ H q)⟩
def gNs : List Nat → TGs
  | [] => gNil
  | i :: is => gCons (gName i) (gNs is)
theorem gNs_ok : ∀ {is : List Nat} {vs : List V} {σ : L2.St} {H : Hp} {Q : L2.St → Hp → Prop}, is.length = vs.length → Q (setAll σ is vs) H → gNs is vs σ H Q
  | [], [], σ, H, Q, _, q => ⟨rfl, q⟩
  | i :: is, v :: vs, σ, H, Q, hl, q => ⟨v, vs, rfl, gNs_ok (is := is) (Nat.succ.inj hl) q⟩
  | [], _ :: _, _, _, _, hl, _ => nomatch hl
  | _ :: _, [], _, _, _, hl, _ => nomatch hl
/-- a, b, .. = x, y, .. stored one by one; the tuple itself is not tracked -/
theorem ps_parU {X : Cx} {es vs : List Expr} {ta : TA} {tg : TGs} {k k2 : Nat} {p p2 pos : Pos} (hc : X.calm = true) (ha : PA X vs ta) (hg : PGs X es tg) (hl : es.length ≤ sizeLine) (hn : (assignEach es X.env).length = es.length) (hst : (assignEach es X.env).findIdx? (·.1) = none)
    (hw : swappedStores [.Tuple es k p] (.Tuple vs k2 p2) X.env = pure none) :
    PS X (.Assign [.Tuple es k p] (.Tuple vs k2 p2) pos) (fun D σ H => ta σ H fun xs H1 => xs.length = es.length ∧ tg xs σ H1 D.nx) := by
  refine ⟨fun pins s σ H D I h => ?_⟩
  refine wpAny_Assign_stores (Tuple_ (thn (ha.run _ pins s σ H _ I h) fun us s1 ⟨xs, H1, I1, r1, hxs, q1⟩ => ?_)) rfl hw
  have hlen : us.length = es.length := by rw [← r1.length]; exact hxs
  refine wpAny_newObj_type ?_ (by show us.length ≤ sizeLine; rw [hlen]; exact hl)
  have I2 : Inv X pins σ H1 { s1 with heap := s1.heap.push { cls := .type "tuple", data := .seq us.toArray } } := I1.kept (t' := s1.toks) fun b o e => Heap.get?_push_of_some _ e
  show wpAny _ _ (assign (.Tuple es k p) X.env (.ref s1.heap.objs.size)) _ _ _
  refine assign_Tuple_tuple (items := us.toArray) (I.ok.hd hc) (IsTup.new s1.heap _) (by rw [hn]; simp [hlen]) hst fun h' hx => ?_
  have I3 := I2.kept (h' := h') (t' := s1.toks) fun b o e => hx b o (Nat.ne_of_lt (Heap.lt_size e)) e
  exact hg.run pins _ σ H1 xs us D.nx I3 r1 q1
theorem chNs_len {c : CC} : ∀ {is : List Nat} {es : List Expr}, chNs c is es = true → is.length = es.length
  | [], [], _ => rfl
  | i :: is, .Name _ _ :: es, h => by
    unfold chNs at h
    rw [Bool.and_eq_true] at h
    rw [List.length_cons, List.length_cons, chNs_len h.2]
  | [], _ :: _, h => by unfold chNs at h; cases h
  | _ :: _, [], h => by unfold chNs at h; cases h
  | _ :: _, e :: _, h => by cases e <;> first | (unfold chNs at h; cases h; done) | (unfold chNs at h; rw [Bool.and_eq_true] at h; simp [chNs_len h.2])
theorem chNs_star {c : CC} {env : Env} : ∀ {is : List Nat} {es : List Expr}, chNs c is es = true → (assignEach es env).findIdx? (·.1) = none ∧ (assignEach es env).length = es.length
  | [], [], _ => ⟨rfl, rfl⟩
  | i :: is, .Name x p :: es, h => by
    unfold chNs at h
    rw [Bool.and_eq_true] at h
    obtain ⟨h1, h2⟩ := chNs_star (env := env) h.2
    rw [asg_one (e := .Name x p) rfl, List.findIdx?_cons, h1, List.length_cons, h2]
    exact ⟨rfl, rfl⟩
  | [], _ :: _, h => by unfold chNs at h; cases h
  | _ :: _, [], h => by unfold chNs at h; cases h
theorem ss_inc {T : Tb} {W : WX} {i : Nat} {fe : List En → Rs Vl} {Dn : Ends} {σ : L2.St} {H : Hp} (h : SpS T W (fun ρ => (intS i ρ).bd fun a ρ0 => (fe ρ0).bd fun x ρ1 => (toI (rd x ρ1) ρ1).bd fun b ρ2 => (stS i false (.int (a + b)) ρ2).bd fun _ ρ3 => .ok .nx ρ3) Dn σ H) : tAug i (Sp T W fe) (ipI fun i j => i + j) Dn σ H := by
  obtain ⟨Z, ρ, r, h⟩ := h
  replace h : PstS T W N0 Z H ρ σ ((intS i ρ).bd fun a ρ0 => (fe ρ0).bd fun x ρ1 => (toI (rd x ρ1) ρ1).bd fun b ρ2 => (stS i false (.int (a + b)) ρ2).bd fun _ ρ3 => .ok .nx ρ3) Dn := h
  obtain ⟨a, ha⟩ : ∃ a, gt ρ i = .da .s (.int a) := by
    unfold intS at h
    split at h
    · rename_i a e; exact ⟨a, e⟩
    · exact h.elim
  have e0 : intS i ρ = .ok a ρ := by
    unfold intS
    rw [ha]
  rw [e0] at h
  have q := r.sl i
  rw [ha] at q
  obtain ⟨v, e1, q⟩ := q
  have ev : v = .int a := (show Vw T Z H v (.int a) from .inl q).int
  subst ev
  refine ⟨.int a, gv_some e1, Z, ρ, r, PstS.bind (show PstS T W N0 Z H ρ σ ((fe ρ).bd fun x ρ1 => (toI (rd x ρ1) ρ1).bd fun b ρ2 => (stS i false (.int (a + b)) ρ2).bd fun _ ρ3 => .ok .nx ρ3) Dn from h) fun w H1 x ρ1 Z1 _ g hv h1 => ?_⟩
  obtain ⟨b, hb⟩ : ∃ b, rd x ρ1 = .int b := by
    unfold toI at h1
    split at h1
    · rename_i b e; exact ⟨b, e⟩
    · exact h1.elim
  have e2 : toI (rd x ρ1) ρ1 = .ok b ρ1 := by rw [hb]; rfl
  rw [e2] at h1
  have hw : w = .int b := by
    have := hv.vw g.rel
    rw [hb] at this
    exact this.int
  subst hw
  refine ⟨a, b, rfl, rfl, ?_⟩
  replace h1 := h1.n0 fun z hz => by
    rcases hz with hz | hz
    · obtain ⟨_, e⟩ := hz
      cases e
    · exact hz
  cases e3 : stS i false (.int (a + b)) ρ1 with
  | no => replace h1 : PstS T W N0 Z1 H1 ρ1 σ ((stS i false (.int (a + b)) ρ1).bd fun _ ρ3 => .ok .nx ρ3) Dn := h1; rw [e3] at h1; exact h1.elim
  | ex y ρ2 => exact (stS_noex e3).elim
  | ok u ρ2 =>
    replace h1 : PstS T W N0 Z1 H1 ρ1 σ ((stS i false (.int (a + b)) ρ1).bd fun _ ρ3 => .ok .nx ρ3) Dn := h1
    rw [e3] at h1
    have g3 := store_go g.rel (v := .int (a + b)) (o := false) (show VlR T Z1 H1 σ ρ1 (.int (a + b)) (.da false (.int (a + b))) from .int _) e3
    exact h1 _ H1 Z1 ((g3.toGoS.pre fun z hz => by obtain ⟨⟨_, e⟩, _⟩ := hz; cases e))
/-- what a statement's context must be -/
structure GS (X : Cx) : Prop where
  hs : X.stack = X.env :: X.outer
  hf : X.env.frame = some X.env.locals
  pas : PassesOwn (model X.prog X.w) X.A X.env X.xe
section
variable {X : Cx} {T : Tb} {W : WX} {g : Gx} {c : CC} {lev : Nat}
theorem lsc {x : Str} {sc : Scope} (h : isLocal sc x = true) : sc.names.lookup x = some .local := by
  unfold isLocal at h
  split at h
  · assumption
  · cases h
theorem GX.plV (J : GX X T W g c lev) {i : Nat} {x : Str} (h : plB c i x = true) : X.N[i]? = some x ∧ X.env.scope.names.lookup x = some .local := by
  unfold plB at h
  rw [Bool.and_eq_true] at h
  exact ⟨J.sl h.1, by rw [J.sc]; exact lsc h.2⟩
theorem GX.pgs (J : GX X T W g c lev) : ∀ {is : List Nat} {es : List Expr}, chNs c is es = true → PGs X es (gNs is)
  | [], [], _ => pgs_nil
  | i :: is, .Name x p :: es, h => by
    unfold chNs at h
    rw [Bool.and_eq_true] at h
    obtain ⟨n1, n2, n3⟩ := J.stV h.1
    exact pgs_cons (pg_name J.nd' n1 n2 n3) (GX.pgs J h.2) rfl
  | [], _ :: _, h => by unfold chNs at h; cases h
  | _ :: _, [], h => by unfold chNs at h; cases h
theorem MF.hold {K : PySem.W.Frag} {mg : Str → Option Value} {nm : Nm} (M : MF K mg T g nm) {a : Addr} {x : Xc} : MF K mg (T.hold a x) g nm := by
  refine ⟨M.blt, fun y n h => ?_, M.inj, M.fnv, M.cls, M.cbl, M.exc⟩
  obtain ⟨u, v, h1, h2, h3⟩ := M.cst y n h
  exact ⟨u, v, h1, h2, fun Z H => Rp.hold (T := T) (T' := T.hold a x) rfl (h3 Z H)⟩
theorem GX.tr (J : GX X T W g c lev) {W' : WX} {pn : List (Addr × Obj)} {xe : Value → Shared → Prop} (tk : Takes (X.tr pn xe) W') (hx : c.sx = false) : GX (X.tr pn xe) T W' g c lev :=
  ⟨J.hK, J.hN, J.nd, J.sc, J.kd, J.cm, J.un, J.fn, J.mf, J.fo, J.rm, tk, fun z => by rw [hx] at z; cases z⟩
theorem GX.su (J : GX X T W g c lev) {pn : List (Addr × Obj)} {a C : Addr} {oe : Obj} {xx : Xc} (hz : Zc (.ref C) none oe) (hf : ∃ vs, oe.data = .fields vs) (hC : T.ca xx.c = some C) :
    GX (X.suite a ((a, oe) :: pn)) (T.hold a xx) W0 g { c with calm := false, sx := true } lev :=
  ⟨J.hK, J.hN, J.nd, J.sc, J.kd, (fun z => nomatch z), J.un, J.fn, J.mf.hold, (fun z => nomatch z), (fun z => nomatch z), takes0, fun _ => ⟨a, C, call_isE (J.mf.exc _ _ hC).1 hz hf, fun b y h => ⟨h.1, by rw [h.2]; exact hC⟩⟩⟩
end
theorem no_comp {c : CC} {e : Ex} {e' : Expr} (h1 : ∀ a b c d f, e ≠ .comp a b c d f) (h2 : ∀ a b c d f g, e ≠ .dcomp a b c d f g) (hc : (compSc e').isSome = true) (h : chE c e e' = true) : False := by
  cases e' with
  | ListComp _ _ _ _ =>
    cases e with
    | comp a b c d f => exact h1 _ _ _ _ _ rfl
    | dcomp a b c d f g => exact h2 _ _ _ _ _ _ rfl
    | op1 o a => cases o <;> simp [chE, strip] at h
    | mth m a es =>
      cases m with
      | index => simp [chE, strip] at h
      | count => simp [chE, strip] at h
      | get1 =>
        cases es with
        | nil => simp [chE] at h
        | cons b es => cases es <;> simp [chE, strip] at h
      | get2 =>
        cases es with
        | nil => simp [chE] at h
        | cons b es =>
          cases es with
          | nil => simp [chE] at h
          | cons d es => cases es <;> simp [chE, strip] at h
    | _ => simp [chE, strip] at h
  | DictComp _ _ _ _ _ =>
    cases e with
    | comp a b c d f => exact h1 _ _ _ _ _ rfl
    | dcomp a b c d f g => exact h2 _ _ _ _ _ _ rfl
    | op1 o a => cases o <;> simp [chE, strip] at h
    | mth m a es =>
      cases m with
      | index => simp [chE, strip] at h
      | count => simp [chE, strip] at h
      | get1 =>
        cases es with
        | nil => simp [chE] at h
        | cons b es => cases es <;> simp [chE, strip] at h
      | get2 =>
        cases es with
        | nil => simp [chE] at h
        | cons b es =>
          cases es with
          | nil => simp [chE] at h
          | cons d es => cases es <;> simp [chE, strip] at h
    | _ => simp [chE, strip] at h
  | _ => cases hc
section
variable {g : Gx} {lev : Nat}
mutual
theorem soS : ∀ (s : St) {c : CC} {st : Stmt} {X : Cx} {T : Tb} {W : WX}, GX X T W g c lev → GS X → (∀ a xx, T.px a xx → c.sx = true) → chS c s st = true → PS X st (SpS T W (es g s))
  | .asg (.v i) e, c, st, X, T, W, J, S, hp, h => by
    unfold chS at h
    split at h
    · rename_i x px e' pos
      simp only [Bool.and_eq_true, Bool.or_eq_true] at h
      obtain ⟨⟨h1, h2⟩, h3⟩ := h
      obtain ⟨n1, n2, n3⟩ := J.stV h1
      rcases h3 with (h3 | ⟨h3, h4⟩) | ⟨h3, h4⟩
      · exact PS.imp (ps_set J.nd' n1 n2 (soE e J h2) (comp_sw h3) n3) fun _ _ _ q => ss_set q
      · have hc : (compSc e').isSome = true := by
          unfold swB at h3
          split at h3
          · rename_i q; rw [q]; rfl
          · cases h3
        have hsw : swapsWith e' (some (.Name x px)) pos.line X.env = pure true := by rw [swap_c J.sc J.kd hc, h3]
        have hl : X.env.scope.names.lookup x = some .local := by
          rw [J.sc]
          unfold swB at h3
          split at h3
          · simp only [Bool.and_eq_true] at h3
            exact lsc h3.1.1
          · cases h3
        cases e with
        | comp vs elt tg it ts =>
          unfold chE at h2
          split at h2
          · rename_i elt' tg' it' ifs scope pos' e1
            have e2 : e' = .ListComp elt' [⟨tg', it', ifs, 0⟩] scope pos' := by
              cases e' with
              | ListComp _ _ _ _ => exact e1
              | DictComp _ _ _ _ _ => cases e1
              | _ => cases hc
            subst e2
            simp only [Bool.and_eq_true] at h2
            obtain ⟨⟨⟨⟨⟨⟨⟨h1, h2⟩, h3⟩, h4⟩, h5⟩, h6⟩, h7⟩, h8⟩ := h2
            have ok := J.blkOk h2
            refine PS.imp (ps_setLc (own := ownOf c vs) (J.cm h1) J.nd' n1 hl hsw (soI it J h5) ok (fun s H C cl fp => soG tg (J.blk ok s H C cl fp) h6) (fun s H C cl fp => soTs ts (J.blk ok s H C cl fp) h7) (fun s H C cl fp => soE elt (J.blk ok s H C cl fp) h8) (set_fold h4)) fun D σ H q => ?_
            rw [own_snd]
            exact sp_comp (mem_all h3) (ss_set q)
          · cases h2
        | dcomp vs k v tg it ts =>
          unfold chE at h2
          split at h2
          · rename_i k' v' tg' it' ifs scope pos' e1
            have e2 : e' = .DictComp k' v' [⟨tg', it', ifs, 0⟩] scope pos' := by
              cases e' with
              | ListComp _ _ _ _ => cases e1
              | DictComp _ _ _ _ _ => exact e1
              | _ => cases hc
            subst e2
            simp only [Bool.and_eq_true] at h2
            obtain ⟨⟨⟨⟨⟨⟨⟨⟨h1, h2⟩, h3⟩, h4⟩, h5⟩, h6⟩, h7⟩, h8⟩, h9⟩ := h2
            have ok := J.blkOk h2
            refine PS.imp (ps_setDc (own := ownOf c vs) (J.cm h1) J.nd' n1 hl hsw (soI it J h5) ok (fun s H C cl fp => soG tg (J.blk ok s H C cl fp) h6) (fun s H C cl fp => soTs ts (J.blk ok s H C cl fp) h7) (fun s H C cl fp => soE k (J.blk ok s H C cl fp) h8) (fun s H C cl fp => soE v (J.blk ok s H C cl fp) h9) (set_fold h4)) fun D σ H q => ?_
            rw [own_snd]
            exact sp_dcomp (mem_all h3) (ss_set q)
          · cases h2
        | _ => exact (no_comp (by intro a b c d f z; cases z) (by intro a b c d f g z; cases z) hc h2).elim
      · rw [Bool.not_eq_true'] at h3
        exact PS.imp (ps_set J.nd' n1 n2 (soE e J h2) (by rw [swap_c J.sc J.kd h4, h3]) n3) fun _ _ _ q => ss_set q
    · cases h
  | .asg (.t ts) e, c, st, X, T, W, J, S, hp, h => by
    unfold chS at h
    split at h
    · rename_i es0 k0 p0 e0 q0
      simp only [Bool.and_eq_true] at h
      obtain ⟨⟨⟨⟨h1, h2⟩, h3⟩, h4⟩, h5⟩ := h
      have hg : ∀ k p, chG c (.t ts) (.Tuple es0 k p) = true := fun k p => by
        unfold chG
        show (c.calm && chGs c ts es0) = true
        rw [h1, h2]; rfl
      exact PS.imp (ps_asg (soE e J h3) (soG (.t ts) J (hg _ _)) (swap_no (t := .Tuple _ _ _) h4) (stores_un J.sc h5) rfl) fun _ _ _ q => ss_asg q
    · cases h
  | .asg (.ix i k) e, c, st, X, T, W, J, S, hp, h => by
    unfold chS at h
    split at h
    · rename_i x0 p0 k0 p2 e0 q0
      simp only [Bool.and_eq_true] at h
      obtain ⟨⟨⟨⟨h1, h2⟩, h3⟩, h4⟩, h5⟩ := h
      have hg : ∀ p q, chG c (.ix i k) (.Subscript (.Name x0 p) k0 q) = true := fun p q => by
        unfold chG
        show (rdB c i x0 && chE c k k0 && noSl k0) = true
        rw [h1, h2, h3]; rfl
      exact PS.imp (ps_asg (soE e J h4) (soG (.ix i k) J (hg _ _)) (swap_no (t := .Subscript (.Name _ _) _ _) h5) (by cases e <;> rfl) rfl) fun _ _ _ q => ss_asg q
    · cases h
  | .par [i, j] xs, c, st, X, T, W, J, S, hp, h => by
    unfold chS at h
    rw [Bool.or_eq_true] at h
    rcases h with h | h
    · split at h
      · simp only [Bool.and_eq_true, Bool.not_eq_true'] at h
        obtain ⟨⟨⟨⟨⟨⟨⟨⟨h1, h2⟩, h3⟩, h4⟩, h5⟩, h6⟩, h7⟩, h8⟩, h9⟩ := h
        obtain ⟨n1, n2⟩ := J.plV h2
        obtain ⟨m1, m2⟩ := J.plV h3
        have hst := chEs_star h5
        simp only [List.all_cons, List.all_nil, Bool.and_true, Bool.and_eq_true] at hst
        unfold plB at h2 h3
        rw [Bool.and_eq_true] at h2 h3
        exact PS.imp (ps_par (J.cm h1) J.nd' n1 m1 (fun e => by rw [e, beq_self_eq_true] at h4; cases h4) n2 m2 (soA xs J h5) (stores_par2 J.sc J.kd h2.2 h3.2 h6 h7 h8 h9 hst.1 hst.2) rfl) fun _ _ _ q => ss_par2 q
      · cases h
    · split at h
      · rename_i es0 k0 p0 vs0 k1 p1 pos0
        simp only [Bool.and_eq_true] at h
        obtain ⟨⟨⟨h1, h2⟩, h3⟩, h4⟩ := h
        obtain ⟨z1, z2⟩ := chNs_star (env := X.env) h2
        have z3 := chNs_len h2
        refine PS.imp (ps_parU (J.cm h1) (soA xs J h3) (J.pgs h2) (by rw [← z3]; show 2 ≤ sizeLine; decide) z2 z1 (stores_un J.sc h4)) fun D σ H q => ?_
        obtain ⟨Z, ρ, r, q⟩ := ss_parL (is := [i, j]) q
        exact ⟨Z, ρ, r, q.mono fun vs H1 ⟨hl, q⟩ => ⟨by rw [← z3]; exact hl.symm, gNs_ok hl q⟩⟩
      · cases h
  | .par [i, j, l] xs, c, st, X, T, W, J, S, hp, h => by
    unfold chS at h
    rw [Bool.or_eq_true] at h
    rcases h with h | h
    · split at h
      · simp only [Bool.and_eq_true, Bool.not_eq_true'] at h
        obtain ⟨⟨⟨⟨⟨⟨⟨⟨⟨⟨⟨⟨h1, h2⟩, h3⟩, h4⟩, h5⟩, h6⟩, h7⟩, h8⟩, h9⟩, h10⟩, h11⟩, h12⟩, h13⟩ := h
        obtain ⟨n1, n2⟩ := J.plV h2
        obtain ⟨m1, m2⟩ := J.plV h3
        obtain ⟨l1, l2⟩ := J.plV h4
        have hst := chEs_star h8
        simp only [List.all_cons, List.all_nil, Bool.and_true, Bool.and_eq_true] at hst
        unfold plB at h2 h3 h4
        rw [Bool.and_eq_true] at h2 h3 h4
        exact PS.imp (ps_par3 (J.cm h1) J.nd' n1 m1 l1 (fun e => by rw [e, beq_self_eq_true] at h5; cases h5) (fun e => by rw [e, beq_self_eq_true] at h6; cases h6) (fun e => by rw [e, beq_self_eq_true] at h7; cases h7) n2 m2 l2 (soA xs J h8)
          (stores_par3 J.sc J.kd h2.2 h3.2 h4.2 h9 h10 h11 h12 h13 hst.1 hst.2.1 hst.2.2) rfl) fun _ _ _ q => ss_par3 q
      · cases h
    · split at h
      · rename_i es0 k0 p0 vs0 k1 p1 pos0
        simp only [Bool.and_eq_true] at h
        obtain ⟨⟨⟨h1, h2⟩, h3⟩, h4⟩ := h
        obtain ⟨z1, z2⟩ := chNs_star (env := X.env) h2
        have z3 := chNs_len h2
        refine PS.imp (ps_parU (J.cm h1) (soA xs J h3) (J.pgs h2) (by rw [← z3]; show 3 ≤ sizeLine; decide) z2 z1 (stores_un J.sc h4)) fun D σ H q => ?_
        obtain ⟨Z, ρ, r, q⟩ := ss_parL (is := [i, j, l]) q
        exact ⟨Z, ρ, r, q.mono fun vs H1 ⟨hl, q⟩ => ⟨by rw [← z3]; exact hl.symm, gNs_ok hl q⟩⟩
      · cases h
  | .par [] xs, c, st, X, T, W, J, S, hp, h => by unfold chS at h; cases h
  | .par [i] xs, c, st, X, T, W, J, S, hp, h => by unfold chS at h; cases h
  | .par (i :: j :: l :: m :: is) xs, c, st, X, T, W, J, S, hp, h => by unfold chS at h; cases h
  | .parT _ _, c, st, X, T, W, J, S, hp, h => by unfold chS at h; cases h
  | .app i e, c, st, X, T, W, J, S, hp, h => by
    unfold chS at h
    split at h
    · simp only [Bool.and_eq_true] at h
      obtain ⟨⟨⟨⟨h1, h2⟩, h3⟩, h4⟩, h5⟩ := h
      cases beq_iff_eq.mp h1
      refine PS.imp (ps_expr (pe_bm PySem.F.plainAttrs_list PySem.F.slot_list_append PySem.F.type_list_append mt_append (J.rdV h2) (pa_cons (soE e J h3) pa_nil (star_cons h4)) rfl (few1 h4) h5 (star_cons h4) rfl) (comp_sw rfl)) fun _ _ _ q => ?_
      rw [J.hK]
      exact ss_app q
    · cases h
  | .ext i e, c, st, X, T, W, J, S, hp, h => by
    unfold chS at h
    split at h
    · simp only [Bool.and_eq_true] at h
      obtain ⟨⟨⟨⟨h1, h2⟩, h3⟩, h4⟩, h5⟩ := h
      cases beq_iff_eq.mp h1
      refine PS.imp (ps_expr (pe_bm PySem.F.plainAttrs_list PySem.F.slot_list_extend PySem.F.type_list_extend mt_extend (J.rdV h2) (pa_cons (soE e J h3) pa_nil (star_cons h4)) rfl (few1 h4) h5 (star_cons h4) rfl) (comp_sw rfl)) fun _ _ _ q => ?_
      rw [J.hK]
      exact ss_ext q
    · cases h
  | .inc i e, c, st, X, T, W, J, S, hp, h => by
    unfold chS at h
    split at h
    · rw [Bool.and_eq_true] at h
      obtain ⟨n1, n2, n3⟩ := J.stV h.1
      exact PS.imp (ps_aug J.nd' n1 n2 (soE e J h.2) ip_add n3) fun _ _ _ q => ss_inc q
    · cases h
  | .exp e, c, st, X, T, W, J, S, hp, h => by
    unfold chS at h
    split at h
    · simp only [Bool.and_eq_true] at h
      exact PS.imp (ps_expr (soE e J h.1) (comp_sw h.2)) fun _ _ _ q => ss_drop q
    · cases h
  | .ret e, c, st, X, T, W, J, S, hp, h => by
    unfold chS at h
    split at h
    · exact PS.imp (ps_ret (soE e J h)) fun _ _ _ q => ss_ret q
    · cases h
  | .retN, c, st, X, T, W, J, S, hp, h => by
    unfold chS at h
    split at h
    · exact PS.imp ps_retN fun _ _ _ q => ss_retN q
    · cases h
  | .ife t a b, c, st, X, T, W, J, S, hp, h => by
    unfold chS at h
    split at h
    · simp only [Bool.and_eq_true] at h
      exact PS.imp (ps_if (soT t J h.1.1).1 (soSs a J S hp h.1.2) (soSs b J S hp h.2)) fun _ _ _ q => ss_if q
    · cases h
  | .for_ tg it b, c, st, X, T, W, J, S, hp, h => by
    unfold chS at h
    split at h
    · simp only [Bool.and_eq_true] at h
      obtain ⟨⟨⟨⟨h1, h2⟩, h3⟩, h4⟩, h5⟩ := h
      exact PS.imp (ps_for S.pas (J.cm h1) (soI it J h2) (soG tg J h3) (soSs b J S hp h4) (set_fold h5)) fun _ _ _ q => sp_for q
    · cases h
  | .whl t b, c, st, X, T, W, J, S, hp, h => by
    unfold chS at h
    split at h
    · simp only [Bool.and_eq_true] at h
      exact PS.imp (ps_while S.pas (soT t J h.1.2).1 (soSs b J S hp h.2)) fun _ _ _ q => sp_whl q
    · cases h
  | .rai k xs, c, st, X, T, W, J, S, hp, h => by
    unfold chS at h
    split at h
    · simp only [Bool.and_eq_true] at h
      obtain ⟨⟨h1, h2⟩, h3⟩ := h
      obtain ⟨n1, n2, n3⟩ := nmB_at h2
      obtain ⟨C, k1, k2, k3⟩ := J.mf.cls _ _ n3
      obtain ⟨x1, x2, x3, x4, x5⟩ := J.mf.exc _ _ k2
      cases xs with
      | nil => exact PS.imp (ps_raise (J.cm h1) J.tk (pmk_own0 PySem.F.excBase_ValueError x2 k1 x3 (raises_own x4 x5) (J.gl n1) (okN_d n2).1)) fun _ _ _ q => ss_rai k2 q
      | cons _ _ => cases h3
    · cases h
  | .try1 b k (some i) hd, c, st, X, T, W, J, S, hp, h => by
    unfold chS at h
    split at h
    · simp only [Bool.and_eq_true, Bool.or_eq_true, Bool.not_eq_true'] at h
      obtain ⟨⟨⟨⟨⟨h1, h2⟩, h3⟩, h4⟩, h5⟩, h6⟩ := h
      obtain ⟨n1, n2⟩ := J.plV h4
      have np : ∀ a xx, ¬ T.px a xx := fun a xx q => by have := hp a xx q; rw [h2] at this; cases this
      have key : ∀ {x : Str} {cv : Value}, Names X x cv → (∀ j D, T.ca j = some D → PySem.W.exmOne X.K (.ref D) cv = some (g.sub j k)) → ∀ {p1 p2 p3 : Pos} {n : Str} {b' : List Stmt} {h1' : Stmt} {hs' : List Stmt}, chSs c b b' = true → chSs { c with calm := false, sx := true } hd (h1' :: hs') = true → X.N[i]? = some n → X.env.scope.names.lookup n = some .local →
          PS X (.Try b' [.ExceptHandler (some (.Name x p1)) (some n) (h1' :: hs') p2] [] [] p3) (SpS T W (es g (.try1 b k (some i) hd))) := by
        intro x cv hn hsub p1 p2 p3 n b' h1' hs' hb hh i1 i2
        refine PS.imp (ps_try_as (tb := fun W' => SpS T W' (ess g b)) (ts := fun a cls dd => fun D σ H => dd = none ∧ ∃ xx C, cls = .ref C ∧ T.ca xx.c = some C ∧ xx.fs = [] ∧ SpS (T.hold a xx) W0 (ess g hd) D σ H) (Wout := W) S.hs S.hf J.nd' i1 i2 hn J.tk
          (fun W' pn xe tk pas => soSs b (J.tr tk h2) ⟨S.hs, S.hf, pas⟩ hp hb) (fun a oe cls d pn hz hf => ⟨fun pins s σ H D I q => ?_⟩)) fun D σ H q => ?_
        · obtain ⟨rfl, xx, C, rfl, hC, hfs, q⟩ := q
          exact (soSs hd (J.su hz hf hC) ⟨S.hs, S.hf, PassesOwn.never⟩ (fun _ _ _ => rfl) hh).run pins s σ H D I q
        · rw [J.hK]
          rw [J.hK] at hsub
          exact ss_try np (fun j a ha => hsub j a ha) q
      rcases h3 with h3 | h3
      · obtain ⟨m1, m2, m3⟩ := nmB_at h3
        obtain ⟨C, k1, k2, k3⟩ := J.mf.cls _ _ m3
        exact key ⟨J.gl m1, (okN_d m2).1, .inl k1⟩ (fun j D hj => (k3 j D hj).2) h5 h6 n1 n2
      · obtain ⟨m1, m2, m3⟩ := nmB_at h3
        obtain ⟨n, k1, k2, k3⟩ := J.mf.cbl _ _ m3
        exact key ⟨J.gl m1, (okN_d m2).1, .inr ⟨k2, k1, (okN_d m2).2.2⟩⟩ (fun j D hj => (k3 j D hj).2) h5 h6 n1 n2
    · cases h
  | .try1 _ _ none _, c, st, X, T, W, J, S, hp, h => by unfold chS at h; cases h
  | .pas, c, st, X, T, W, J, S, hp, h => by
    unfold chS at h
    split at h
    · exact PS.imp ps_pass fun _ _ _ q => ss_nil q
    · cases h
  | .brk, c, st, X, T, W, J, S, hp, h => by
    unfold chS at h
    split at h
    · exact PS.imp ps_break fun _ _ _ q => ss_brk q
    · cases h
  | .cnt, c, st, X, T, W, J, S, hp, h => by
    unfold chS at h
    split at h
    · exact PS.imp ps_continue fun _ _ _ q => ss_cnt q
    · cases h
theorem soSs : ∀ (ss : Sts) {c : CC} {sts : List Stmt} {X : Cx} {T : Tb} {W : WX}, GX X T W g c lev → GS X → (∀ a xx, T.px a xx → c.sx = true) → chSs c ss sts = true → PSs X sts (SpS T W (ess g ss))
  | .nil, c, [], X, T, W, J, S, hp, h => PSs.imp pss_nil fun _ _ _ q => ss_nil q
  | .cons s ss, c, st :: sts, X, T, W, J, S, hp, h => by
    unfold chSs at h
    rw [Bool.and_eq_true] at h
    exact PSs.imp (pss_cons (soS s J S hp h.1) (soSs ss J S hp h.2)) fun _ _ _ q => ss_seq q
  | .nil, c, _ :: _, X, T, W, J, S, hp, h => by unfold chSs at h; cases h
  | .cons _ _, c, [], X, T, W, J, S, hp, h => by unfold chSs at h; cases h
end
end
end G
set_option maxHeartbeats 4000000
/-! F34: all defs of a text keep the promises that the own evaluator tells. -/
namespace G
open PySem L2 PySem.Spec PyProof.Rows
/-- a def's scope -/
def scB (N ps : List Str) (sc : Scope) : Bool :=
  isFun sc && !sc.isCoroutine && !sc.isGenerator && decide N.Nodup && decide (N.take ps.length = ps) && ps.all (fun x => locB sc x) && sc.names.all (fun y => match y.2 with
    | .free => false
    | _ => true)
theorem isFun_ok {sc : Scope} (h : isFun sc = true) : sc.kind = .function := by
  unfold isFun at h
  split at h
  · assumption
  · cases h
theorem locB_ok {sc : Scope} {x : Str} (h : locB sc x = true) : sc.names.lookup x = some .local ∨ sc.names.lookup x = some .cell := by
  unfold locB at h
  split at h
  · rename_i e; exact .inl e
  · rename_i e; exact .inr e
  · cases h
theorem scB_ok {N ps : List Str} {sc : Scope} (h : scB N ps sc = true) : FnScope N ps sc := by
  unfold scB at h
  simp only [Bool.and_eq_true, Bool.not_eq_true', List.all_eq_true] at h
  obtain ⟨⟨⟨⟨⟨⟨h1, h2⟩, h3⟩, h4⟩, h5⟩, h6⟩, h7⟩ := h
  refine ⟨isFun_ok h1, h2, h3, of_decide_eq_true h4, of_decide_eq_true h5, fun x hx => locB_ok (h6 x hx), fun y hy e => ?_⟩
  have := h7 y hy
  rw [e] at this
  cases this
/-- a def of the text -/
structure DI where
  name : Str
  N : List Str
  df : Df
  args : Arguments
  body : List Stmt
  scope : Scope
def DI.ps (d : DI) : List Str := d.N.take d.df.np
def DI.cc (d : DI) (nm : Nm) : CC := ⟨d.N, d.scope, none, true, false, nm⟩
abbrev DI.Bn (d : DI) : Prop := ∀ (kV doc pm : Value) (an : Option Addr) (cdv ct : Value) (us : List Value), us.length = d.ps.length → bindArgs (PySem.W.fnOf d.name d.name d.args d.body d.scope .none kV doc pm an cdv ct) ⟨us, []⟩ = pure (d.ps.zip us)
def DI.chk (d : DI) (nm : Nm) : Bool := scB d.N d.ps d.scope && chSs (d.cc nm) d.df.body d.body && (d.df.nn == d.N.length) && decide (d.df.np ≤ d.N.length)
section
variable {P : Program} {w : World} {K : PySem.W.Frag} {mg : Str → Option Value} {base : Heap} {T : Tb} {fs : Nat → Option Df} {gc : Nat → D} {sub : Nat → Nat → Bool} {wh : Nat} {nm : Nm}
theorem ps_len {d : DI} (h : d.df.np ≤ d.N.length) : d.ps.length = d.df.np := by
  unfold DI.ps
  rw [List.length_take]
  omega
theorem start_eq {N : List Str} {vs : List V} : start N vs = vs.map some ++ List.replicate (N.length - vs.length) none := rfl
theorem all_ok {ds : Nat → DI} (hK : T.K = K) (hpx : ∀ a x, ¬ T.px a x) (M : ∀ φ, MF K mg T ⟨φ, gc, sub, wh⟩ nm)
    (Ds : ∀ k f, T.fa k = some f → ∃ fd : FuncData, fs k = some (ds k).df ∧ (ds k).chk nm = true ∧ (ds k).Bn ∧ FunD K (ds k).name (ds k).name (ds k).args (ds k).body (ds k).scope [] [] f fd) :
    ∀ n k f, T.fa k = some f → ∃ fd : FuncData, fs k = some (ds k).df ∧ (ds k).chk nm = true ∧ (ds k).Bn ∧ FunD K (ds k).name (ds k).name (ds k).args (ds k).body (ds k).scope [] [] f fd ∧ FnOk P w K mg base (L2.CX P w) n f fd (ds k).ps (spF T (phi fs gc sub wh n k)) ∧ PySem.W.keepIn K (.ref f) = true ∧ Binds K fd (ds k).ps []
  | 0, k, f, h => by
    obtain ⟨fd, h1, h2, h3, F⟩ := Ds k f h
    have ⟨d, hdk⟩ : ∃ d, d = ds k := ⟨_, rfl⟩
    rw [← hdk] at h1 h2 h3 F ⊢
    refine ⟨fd, h1, h2, h3, F, ⟨fun vs H Q E q => ?_, fun A outer s H args us vs Q E _ _ _ _ q => ?_⟩, F.kp, F.bindsN h3⟩
    · obtain ⟨Z, as, _, _, q⟩ := q
      exact q.elim
    · obtain ⟨Z, as, _, _, q⟩ := q
      exact q.elim
  | n + 1, k, f, h => by
    obtain ⟨fd, h1, h2, h3, F⟩ := Ds k f h
    have ⟨d, hdk⟩ : ∃ d, d = ds k := ⟨_, rfl⟩
    rw [← hdk] at h1 h2 h3 F ⊢
    refine ⟨fd, h1, h2, h3, F, ?_, F.kp, F.bindsN h3⟩
    have hc := h2
    unfold DI.chk at hc
    simp only [Bool.and_eq_true] at hc
    obtain ⟨⟨⟨c1, c2⟩, c3⟩, c4⟩ := hc
    have S := scB_ok c1
    have hn : d.df.nn = d.N.length := beq_iff_eq.mp c3
    have hnp := ps_len (of_decide_eq_true c4)
    have hphi : ∀ as, phi fs gc sub wh (n + 1) k as = runD ⟨phi fs gc sub wh n, gc, sub, wh⟩ d.df as := fun as => by
      show (match fs k with
        | some f => runD ⟨phi fs gc sub wh n, gc, sub, wh⟩ f as
        | none => .no) = _
      rw [h1]
    have hlen : ∀ vs H Q E, spF T (phi fs gc sub wh (n + 1) k) vs H Q E → vs.length = d.ps.length := fun vs H Q E q => by
      obtain ⟨Z, as, _, r, q⟩ := q
      rw [hphi] at q
      unfold runD at q
      by_cases e : as.length = d.df.np
      · have := r.len
        rw [List.length_map] at this
        omega
      · rw [if_neg e] at q
        exact q.elim
    refine F.ok S hlen fun cdv A outer s H vs Q E hr q => ?_
    have hl := hlen vs H Q E q
    obtain ⟨Z, as, har, r, q⟩ := q
    have hal : as.length = vs.length := by
      have := r.len
      rw [List.length_map] at this
      exact this
    rw [hphi] at q
    unfold runD at q
    rw [if_pos (by omega)] at q
    rw [show d.df.np = vs.length by omega] at q
    have q2 := def_ok (T := T) (E := E) (n := d.df.nn - vs.length) hal har r q
    refine ⟨SpS T (fun c d _ H => E c d H) (ess ⟨phi fs gc sub wh n, gc, sub, wh⟩ d.df.body), soSs (lev := n) (c := d.cc nm) d.df.body ?_ ⟨rfl, rfl, passes_of rfl⟩ (fun a xx h => (hpx a xx h).elim) c2, ⟨Z, as ++ List.replicate (d.df.nn - vs.length) .un, ?_, ?_⟩⟩
    · refine ⟨hK.symm, rfl, S.nd, rfl, S.kind, fun _ => rfl, by have := hr.un; show (A.deeper (envOfC d.name d.scope s.heap.objs.size f cdv)).units + 65 < cLine; omega, fun _ _ => .inl rfl, M _, fun _ k' f' h' => ?_, fun _ => hr, takes_of rfl rfl rfl rfl, fun z => nomatch z⟩
      obtain ⟨fd', _, _, _, _, G1, G2, G3⟩ := all_ok hK hpx M Ds n k' f' h'
      exact ⟨fd', (ds k').ps, G1, G2, G3⟩
    · rw [start_eq, hn]
      exact Rel.app r
    · rw [start_eq, ← hn]
      exact q2
end
end G
set_option maxHeartbeats 4000000
/-! F35: a law's head: what stands behind the top, and the law's end. -/
namespace G
open PySem L2 PySem.Spec PyProof.Rows
/-- a constant of the module -/
inductive GV where
  | int (i : Int)
  | str (x : Str)
def GV.d : GV → D
  | .int i => .int i
  | .str x => .str x
def GV.fa (x : Str) : GV → He.Fa
  | .int i => .int x i
  | .str z => .str x z
def GV.ok : GV → Bool
  | .int _ => true
  | .str x => PyData.strOk x
/-- a law's text -/
structure LT where
  F : List (Str × Nat)
  C : List (Str × Nat)
  B : List (Str × Nat)
  G : List (Str × Nat)
  gv : List (Nat × GV)
  fs : Nat → Option Df
  sub : Nat → Nat → Bool
  ds : List (Nat × DI)
def lk (l : List (Str × Nat)) (k : Nat) : Option Str := (l.find? fun p => p.2 == k).map (·.1)
def LT.nm (L : LT) : Nm := ⟨L.F, L.C, L.B, L.G⟩
def LT.gc (L : LT) (n : Nat) : D := match L.gv.lookup n with
  | some v => v.d
  | none => .non
def LT.tb (L : LT) (K : PySem.W.Frag) : Tb := ⟨K, fun k => (lk L.F k).map (He.ga K), fun k => (lk L.C k).map (He.ga K), fun _ _ => False⟩
def DI.dd (d : DI) : He.DefD := ⟨(d.name, none), d.name, d.name, d.args, d.body, d.scope, [], []⟩
def LT.fn (L : LT) : List He.DefD := L.ds.map fun p => p.2.dd
def LT.fa (L : LT) : List He.Fa :=
  bltNames.map .free ++ (L.B.map fun p => .free p.1) ++ (L.F.map fun p => .glo p.1) ++ (L.C.map fun p => .glo p.1) ++ (L.C.map fun p => .exc p.1) ++ L.G.filterMap fun p => (L.gv.lookup p.2).map (GV.fa p.1)
/-- what a class must say -/
def excB (K : PySem.W.Frag) (D : Addr) : Bool :=
  He.eqO (PySem.W.findIn K (.ref D) "__getattribute__") (some (some (.builtin "BaseException.__getattribute__"))) && He.eqO (PySem.W.findIn K (.ref D) "__getattr__") (some none) &&
  decide (PySem.W.subIn K (.ref D) (.type "BaseException") = some true) && PySem.W.hasDictIn K D && He.eqO (PySem.W.findIn K (.ref D) "__class__") (some (some (.builtin "object.__class__"))) &&
  He.eqO (PySem.W.specialIn K (.builtin "object.__class__") "__get__") (some (some (.builtin "getset_descriptor.__get__"))) && decide (PySem.W.takesIn K (.builtin "object.__class__") = some true) && decide (PySem.W.mroIn K D (.type "object") = some true)
theorem excB_ok {K : PySem.W.Frag} {D : Addr} (h : excB K D = true) : ExcC K D := by
  unfold excB at h
  simp only [Bool.and_eq_true] at h
  obtain ⟨⟨⟨⟨⟨⟨⟨h1, h2⟩, h3⟩, h4⟩, h5⟩, h6⟩, h7⟩, h8⟩ := h
  exact ⟨He.eqO_ok h1, He.eqO_ok h2, of_decide_eq_true h3, h4, He.eqO_ok h5, He.eqO_ok h6, of_decide_eq_true h7, of_decide_eq_true h8⟩
def subB (K : PySem.W.Frag) (c d : Value) (b : Bool) : Bool := decide (PySem.W.kitOne K c d = some b) && decide (PySem.W.exmOne K c d = some b)
def noLst (o : Obj) : Bool := match o.cls with
  | .type c => decide (c ≠ "list")
  | _ => true
def bltT (x : Str) : Option String := match bootBuiltins x with
  | some (.type n) => some n
  | _ => none
theorem bltT_ok {x : Str} {n : String} (h : bltT x = some n) : bootBuiltins x = some (.type n) := by
  unfold bltT at h
  split at h
  · rename_i m e; rw [e, Option.some.inj h]
  · cases h
def LT.ex (L : LT) (K : PySem.W.Frag) : Bool :=
  decide ((L.F.map fun p => He.ga K p.1).Nodup) && K.all (fun p => noLst p.2) && L.C.all (fun p => excB K (He.ga K p.1)) &&
  L.C.all (fun p => L.C.all fun q => subB K (.ref (He.ga K p.1)) (.ref (He.ga K q.1)) (L.sub p.2 q.2)) &&
  L.B.all fun q => match bltT q.1 with
    | some n => L.C.all fun p => subB K (.ref (He.ga K p.1)) (.type n) (L.sub p.2 q.2)
    | none => false
/-- what the text must be like -/
def LT.chk (L : LT) : Bool :=
  L.F.all (fun p => decide (lk L.F p.2 = some p.1)) && L.C.all (fun p => decide (lk L.C p.2 = some p.1)) &&
  L.F.all (fun p => match L.ds.lookup p.2 with
    | some d => decide (d.name = p.1)
    | none => false) &&
  L.G.all (fun p => match L.gv.lookup p.2 with
    | some v => v.ok
    | none => false)
def LT.chkD (L : LT) : Bool := L.ds.all fun p => p.2.chk L.nm
/-! ### the Hook -/
abbrev AlX : Type := He.AlD × Bool
def obsX (L : LT) (K : PySem.W.Frag) : AlX := (He.obsD L.fa L.fn K, L.ex K)
def valX (L : LT) : AlX := (He.valD L.fn, true)
def SaysX (L : LT) (K : PySem.W.Frag) : Prop := obsX L K = valX L
def obsXG (n : Nat) (L : LT) (g : Addr → Option Obj) : AlX := obsX L (He.frG g (He.asD g n))
def hookX (n : Nat) (L : LT) : PySem.W.Hook where
  α := AlX
  obs := fun s => obsXG n L s.heap.get?
  val := fun _ => valX L
  says := fun _ h => ∃ K : PySem.W.Frag, K.In h ∧ SaysX L K
  of := fun _ _ e => ⟨_, He.frG_in, e⟩
  keeps := fun _ _ _ ⟨K, hK, c⟩ k => ⟨K, PySem.W.Frag.In.keeps hK k, c⟩
theorem obsXG_eq {n : Nat} {L : LT} {g : Addr → Option Obj} {s : Shared} (h : ∀ a, g a = s.heap.get? a) : obsXG n L g = (hookX n L).obs s := by
  have e : g = s.heap.get? := funext h
  rw [e] <;> rfl
def obX (n : Nat) (L : LT) (s : PySem.W.SharedT) : AlX := obsXG n L (HandSHeadRun.getT s)
theorem obX_eq (n : Nat) (L : LT) (s : PySem.W.SharedT) : obX n L s = (hookX n L).obs s.abs := obsXG_eq (HandSHeadRun.getT_eq s)
/-! ### facts -/
theorem lookup_mem' {β : Type} {x : Str} {k : β} : ∀ {l : List (Str × β)}, l.lookup x = some k → (x, k) ∈ l
  | [], h => by cases h
  | (y, j) :: r, h => by
    rw [List.lookup_cons] at h
    split at h
    · rename_i e
      cases h
      rw [beq_iff_eq.mp e]
      exact List.mem_cons_self
    · exact List.mem_cons_of_mem _ (lookup_mem' h)
theorem lookup_memN {β : Type} {x : Nat} {k : β} : ∀ {l : List (Nat × β)}, l.lookup x = some k → (x, k) ∈ l
  | [], h => by cases h
  | (y, j) :: r, h => by
    rw [List.lookup_cons] at h
    split at h
    · rename_i e
      cases h
      rw [beq_iff_eq.mp e]
      exact List.mem_cons_self
    · exact List.mem_cons_of_mem _ (lookup_memN h)
theorem lk_mem {l : List (Str × Nat)} {k : Nat} {x : Str} (h : lk l k = some x) : (x, k) ∈ l := by
  unfold lk at h
  cases e : l.find? fun p => p.2 == k with
  | none => rw [e] at h; cases h
  | some p =>
    rw [e] at h
    cases h
    have h1 := List.mem_of_find?_eq_some e
    have h2 := List.find?_some e
    rw [← beq_iff_eq.mp h2]
    exact h1
section
variable {L : LT} {K : PySem.W.Frag} {h : Heap} {mg : Str → Option Value}
theorem says_fa (c : SaysX L K) {f : He.Fa} (hf : f ∈ L.fa) : f.ok K = true := by
  have c0 : He.obsD L.fa L.fn K = He.valD L.fn := congrArg (fun z : AlX => z.1) c
  have c1 := (He.ba (show ((L.fa.all fun f => f.ok K) && L.fn.all fun d => d.ok K) = true from congrArg (fun z : He.AlD => z.1) c0)).1
  exact List.all_eq_true.mp c1 f hf
theorem says_fn (c : SaysX L K) {p : Nat × DI} (hp : p ∈ L.ds) : ∃ fd, FunD K p.2.name p.2.name p.2.args p.2.body p.2.scope [] [] (He.ga K p.2.name) fd := by
  have c0 : He.obsD L.fa L.fn K = He.valD L.fn := congrArg (fun z : AlX => z.1) c
  obtain ⟨i, hi⟩ := List.getElem?_of_mem hp
  have hi2 : L.fn[i]? = some p.2.dd := by
    unfold LT.fn
    rw [List.getElem?_map, hi]
    rfl
  exact He.SaysD.def_ (d := p.2.dd) c0 i hi2
theorem says_ex (c : SaysX L K) : L.ex K = true := congrArg (fun z : AlX => z.2) c
theorem fa_free (c : SaysX L K) (X : K.In h) (G : h.Ns mainGlobals mg) {x : Str} (hx : x ∈ bltNames) : mg x = none :=
  He.free_ok X G (says_fa c (by
    unfold LT.fa
    simp only [List.append_assoc]
    exact List.mem_append_left _ (List.mem_map.mpr ⟨x, hx, rfl⟩)))
theorem fa_freeB (c : SaysX L K) (X : K.In h) (G : h.Ns mainGlobals mg) {p : Str × Nat} (hp : p ∈ L.B) : mg p.1 = none :=
  He.free_ok X G (says_fa c (by
    unfold LT.fa
    simp only [List.append_assoc]
    exact List.mem_append_right _ (List.mem_append_left _ (List.mem_map.mpr ⟨p, hp, rfl⟩))))
theorem fa_F (c : SaysX L K) (X : K.In h) (G : h.Ns mainGlobals mg) {p : Str × Nat} (hp : p ∈ L.F) : mg p.1 = some (.ref (He.ga K p.1)) :=
  He.glo_ok X G (says_fa c (by
    unfold LT.fa
    simp only [List.append_assoc]
    exact List.mem_append_right _ (List.mem_append_right _ (List.mem_append_left _ (List.mem_map.mpr ⟨p, hp, rfl⟩)))))
theorem fa_C (c : SaysX L K) (X : K.In h) (G : h.Ns mainGlobals mg) {p : Str × Nat} (hp : p ∈ L.C) : mg p.1 = some (.ref (He.ga K p.1)) :=
  He.glo_ok X G (says_fa c (by
    unfold LT.fa
    simp only [List.append_assoc]
    exact List.mem_append_right _ (List.mem_append_right _ (List.mem_append_right _ (List.mem_append_left _ (List.mem_map.mpr ⟨p, hp, rfl⟩))))))
theorem fa_X (c : SaysX L K) {p : Str × Nat} (hp : p ∈ L.C) : PySem.W.excIn K (He.ga K p.1) He.veBase "ValueError.__new__" = true ∧ PySem.W.keepIn K (.ref (He.ga K p.1)) = true ∧ PySem.W.subIn K (.ref (He.ga K p.1)) (.type "BaseException") = some true ∧
    PySem.W.typeIn K (.ref (He.ga K p.1)) = some (.type "type") :=
  He.exc_ok (says_fa c (by
    unfold LT.fa
    simp only [List.append_assoc]
    exact List.mem_append_right _ (List.mem_append_right _ (List.mem_append_right _ (List.mem_append_right _ (List.mem_append_left _ (List.mem_map.mpr ⟨p, hp, rfl⟩)))))))
theorem fa_G (c : SaysX L K) {p : Str × Nat} {v : GV} (hp : p ∈ L.G) (hv : L.gv.lookup p.2 = some v) : (GV.fa p.1 v).ok K = true :=
  says_fa c (by
    unfold LT.fa
    simp only [List.append_assoc]
    exact List.mem_append_right _ (List.mem_append_right _ (List.mem_append_right _ (List.mem_append_right _ (List.mem_append_right _ (List.mem_filterMap.mpr ⟨p, hp, by rw [hv]; rfl⟩))))))
theorem nodup_get {α : Type} {f : α → Nat} : ∀ {l : List α}, (l.map f).Nodup → ∀ {x y : α}, x ∈ l → y ∈ l → f x = f y → x = y
  | [], _, x, _, hx, _, _ => nomatch hx
  | a :: l, h, x, y, hx, hy, e => by
    rw [List.map_cons, List.nodup_cons] at h
    rcases List.mem_cons.mp hx with e1 | hx
    · rcases List.mem_cons.mp hy with e2 | hy
      · rw [e1, e2]
      · exact (h.1 (by rw [← e1, e]; exact List.mem_map.mpr ⟨y, hy, rfl⟩)).elim
    · rcases List.mem_cons.mp hy with e2 | hy
      · exact (h.1 (by rw [← e2, ← e]; exact List.mem_map.mpr ⟨x, hx, rfl⟩)).elim
      · exact nodup_get h.2 hx hy e
theorem mf_ok (hc : L.chk = true) (c : SaysX L K) (X : K.In h) (G : h.Ns mainGlobals mg) (φ : Nat → List En → FR) {wh : Nat} : MF K mg (L.tb K) ⟨φ, L.gc, L.sub, wh⟩ L.nm := by
  unfold LT.chk at hc
  simp only [Bool.and_eq_true, List.all_eq_true] at hc
  obtain ⟨⟨⟨c1, c2⟩, c3⟩, c4⟩ := hc
  have ex := says_ex c
  unfold LT.ex at ex
  simp only [Bool.and_eq_true] at ex
  obtain ⟨⟨⟨⟨e1, e2⟩, e3⟩, e4⟩, e5⟩ := ex
  rw [List.all_eq_true] at e3 e4 e5
  have ca : ∀ {k : Nat} {C : Addr}, (L.tb K).ca k = some C → ∃ x, (x, k) ∈ L.C ∧ C = He.ga K x := fun {k C} hk => by
    have hk : (lk L.C k).map (He.ga K) = some C := hk
    cases q : lk L.C k with
    | none => rw [q] at hk; cases hk
    | some x =>
      rw [q] at hk
      cases hk
      exact ⟨x, lk_mem q, rfl⟩
  have caX : ∀ {x : Str} {k : Nat}, (x, k) ∈ L.C → (L.tb K).ca k = some (He.ga K x) := fun {x k} hm => by
    show (lk L.C k).map (He.ga K) = _
    rw [of_decide_eq_true (c2 _ hm)]
    rfl
  refine ⟨fun x hx => fa_free c X G hx, fun x n hx => ?_, fun j k a h1 h2 => ?_, fun x k hx => ?_, fun x k hx => ?_, fun x k hx => ?_, fun k C hk => ?_⟩
  · have hm : (x, n) ∈ L.G := lookup_mem' hx
    have q := c4 _ hm
    dsimp only at q
    cases hv : L.gv.lookup n with
    | none => rw [hv] at q; cases q
    | some v =>
      rw [hv] at q
      have f := fa_G c hm hv
      have hgc : L.gc n = v.d := by
        unfold LT.gc
        rw [hv]
      show ∃ u v', mg x = some u ∧ RelV v' u ∧ ∀ Z H, Rp (L.tb K) Z H v' (L.gc n)
      rw [hgc]
      cases v with
      | int i =>
        obtain ⟨t, e⟩ := He.int_ok X G f
        exact ⟨_, .int i, e, ⟨t, rfl⟩, fun _ _ => .int i⟩
      | str z =>
        obtain ⟨t, e⟩ := He.str_ok X G f
        exact ⟨_, .str z, e, ⟨t, rfl⟩, fun _ _ => .str q⟩
  · have h1 : (lk L.F j).map (He.ga K) = some a := h1
    have h2 : (lk L.F k).map (He.ga K) = some a := h2
    cases q1 : lk L.F j with
    | none => rw [q1] at h1; cases h1
    | some x =>
      cases q2 : lk L.F k with
      | none => rw [q2] at h2; cases h2
      | some y =>
        rw [q1] at h1
        rw [q2] at h2
        have e : He.ga K x = He.ga K y := (Option.some.inj h1).trans (Option.some.inj h2).symm
        have := nodup_get (f := fun p : Str × Nat => He.ga K p.1) (of_decide_eq_true e1) (lk_mem q1) (lk_mem q2) e
        exact congrArg Prod.snd this
  · have hm : (x, k) ∈ L.F := lookup_mem' hx
    refine ⟨He.ga K x, fa_F c X G hm, ?_⟩
    show (lk L.F k).map (He.ga K) = _
    rw [of_decide_eq_true (c1 _ hm)]
    rfl
  · have hm : (x, k) ∈ L.C := lookup_mem' hx
    refine ⟨He.ga K x, fa_C c X G hm, caX hm, fun j D hj => ?_⟩
    obtain ⟨y, hy, rfl⟩ := ca hj
    have q := List.all_eq_true.mp (e4 _ hy) _ hm
    unfold subB at q
    rw [Bool.and_eq_true] at q
    exact ⟨of_decide_eq_true q.1, of_decide_eq_true q.2⟩
  · have hm : (x, k) ∈ L.B := lookup_mem' hx
    have q := e5 _ hm
    dsimp only at q
    cases hb : bltT x with
    | none => rw [hb] at q; cases q
    | some n =>
      rw [hb] at q
      refine ⟨n, bltT_ok hb, fa_freeB c X G hm, fun j D hj => ?_⟩
      obtain ⟨y, hy, rfl⟩ := ca hj
      have q := List.all_eq_true.mp q _ hy
      unfold subB at q
      rw [Bool.and_eq_true] at q
      exact ⟨of_decide_eq_true q.1, of_decide_eq_true q.2⟩
  · obtain ⟨y, hy, rfl⟩ := ca hk
    obtain ⟨x1, x2, x3, x4⟩ := fa_X c hy
    exact ⟨excB_ok (e3 (y, k) hy), x1, x2, x3, x4⟩
/-- the law's promise: its own evaluator answers True at every script -/
def LawD (L : LT) (wh n kl : Nat) : Prop := ∀ ns : List Int, ns.length ≤ 63 → ∃ o fin, phi L.fs L.gc L.sub wh n kl [.da .s (.lst (ns.map D.int))] = .ok o (.bl true) fin
theorem rpl_ints {T : Tb} {Z : Addr → Prop} {H : Hp} : ∀ ns : List Int, RpL T Z H (ns.map V.int) (ns.map D.int)
  | [] => .nil
  | n :: ns => .cons (.int n) (rpl_ints ns)
/-- a promise of a def that lets nothing out -/
theorem fn_calm {P : Program} {w : World} {base : Heap} {k : Nat} {f : Addr} {fd : FuncData} {ps : List Str} {sp : L2.Sp} (F : FnOk P w K mg base (L2.CX P w) k f fd ps sp) : FnOk P w K mg base L2.CX0 k f fd ps (fun vs H Q _ => sp vs H Q fun _ _ _ => False) := by
  refine ⟨fun vs H Q E q => F.len vs H Q _ q, fun A outer s H args us vs Q E hr he hb hv hs => ?_⟩
  refine codeAny_mono (F.run A outer s H args us vs Q _ hr he hb hv hs) fun r s' q => ?_
  cases r with
  | ok fl =>
    cases fl with
    | ret u => exact q
    | next => exact q
    | brk => exact q
    | cont => exact q
  | error e =>
    obtain ⟨_, _, _, _, _, _, _, _, _, _, _, _, z⟩ := q
    exact z.elim
def LT.dsel (L : LT) (k : Nat) : DI := match L.ds.lookup k with
  | some d => d
  | none => ⟨"", [], ⟨0, 0, .nil⟩, ⟨[], [], none, [], [], none, []⟩, [], ⟨.function, [], false, false, []⟩⟩
theorem frag_mem {a : Addr} {o : Obj} : ∀ {K : PySem.W.Frag}, K.lookup a = some o → (a, o) ∈ K
  | [], h => by cases h
  | (b, o') :: r, h => by
    have h : (match a == b with | true => some o' | false => List.lookup a r) = some o := h
    cases e : a == b with
    | true =>
      rw [e] at h
      cases h
      rw [beq_iff_eq.mp e]
      exact List.mem_cons_self
    | false =>
      rw [e] at h
      exact List.mem_cons_of_mem _ (frag_mem h)
theorem law_end {P : Program} {w : World} {wh n kl : Nat} {dl : DI} (hc : L.chk = true) (hd : L.chkD = true) (hfs : ∀ p ∈ L.ds, L.fs p.1 = some p.2.df) (hb : ∀ p ∈ L.ds, p.2.Bn) (hl : (dl.name, kl) ∈ L.F) (hps : dl.ps = [("script" : Str)]) (hdl : L.ds.lookup kl = some dl) (law : LawD L wh n kl)
    (X : K.In h) (G : h.Ns mainGlobals mg) (c : SaysX L K) {f : Addr} (hf : mg dl.name = some (.ref f)) :
    ∃ (fd : FuncData) (sp : L2.Sp), (∀ (s : Shared) (u : Value), BindsTo s fd ⟨[u], []⟩ [("script", u)]) ∧
      (∀ (H : Hp) (a : Addr) (ns : List Int), ns.length ≤ 63 → Only H → SqL K H a (ns.map V.int) → sp [.ref a] H (fun v _ => v = .bl true) fun _ _ _ => False) ∧
      ∀ base : Heap, K.In base → base.Ns mainGlobals mg → FnOk P w K mg base L2.CX0 n f fd ["script"] sp := by
  have M : ∀ φ, MF K mg (L.tb K) ⟨φ, L.gc, L.sub, wh⟩ L.nm := fun φ => mf_ok hc c X G φ
  have hc2 := hc
  unfold LT.chk at hc2
  simp only [Bool.and_eq_true, List.all_eq_true] at hc2
  obtain ⟨⟨⟨c1, c2⟩, c3⟩, c4⟩ := hc2
  have Ds : ∀ k f, (L.tb K).fa k = some f → ∃ (fd : FuncData), L.fs k = some (L.dsel k).df ∧ (L.dsel k).chk L.nm = true ∧ (L.dsel k).Bn ∧ FunD K (L.dsel k).name (L.dsel k).name (L.dsel k).args (L.dsel k).body (L.dsel k).scope [] [] f fd := fun k f hk => by
    have hk : (lk L.F k).map (He.ga K) = some f := hk
    cases q : lk L.F k with
    | none => rw [q] at hk; cases hk
    | some x =>
      rw [q] at hk
      cases hk
      have q2 := c3 _ (lk_mem q)
      dsimp only at q2
      cases hv : L.ds.lookup k with
      | none => rw [hv] at q2; cases q2
      | some d =>
        rw [hv] at q2
        have hm := lookup_memN hv
        obtain ⟨fd, F⟩ := says_fn c hm
        have e0 : L.dsel k = d := by
          unfold LT.dsel
          rw [hv]
        rw [e0]
        refine ⟨fd, ?_, List.all_eq_true.mp hd _ hm, hb _ hm, ?_⟩
        · exact hfs _ hm
        · have : d.name = x := of_decide_eq_true q2
          rw [← this]
          exact F
  have el : L.dsel kl = dl := by
    unfold LT.dsel
    rw [hdl]
  have hfk : (L.tb K).fa kl = some f := by
    have e := fa_F c X G hl
    dsimp only at e
    rw [hf] at e
    cases e
    show (lk L.F kl).map (He.ga K) = _
    rw [of_decide_eq_true (c1 _ hl)]
    rfl
  have hpx : ∀ a x, ¬ (L.tb K).px a x := fun _ _ z => z
  obtain ⟨fd, d1, d2, d3, F, _⟩ := all_ok (P := P) (w := w) (base := h) rfl hpx M Ds 0 kl f hfk
  refine ⟨fd, fun vs H Q _ => spF (L.tb K) (phi L.fs L.gc L.sub wh n kl) vs H Q fun _ _ _ => False, ?_, fun H a ns hn hO hS => ?_, fun base KB GB => ?_⟩
  · rw [el] at F d3
    have b := FunD.bindsA (ps := dl.ps) F d3
    rw [hps] at b
    exact fun s u => b s [u] rfl
  · obtain ⟨o, fin, e⟩ := law ns hn
    have ex := says_ex c
    unfold LT.ex at ex
    simp only [Bool.and_eq_true] at ex
    obtain ⟨⟨⟨⟨e1, e2⟩, e3⟩, e4⟩, e5⟩ := ex
    have hr : Rd H a (.lst (ns.map V.int)) := by
      rcases hS with hS | ⟨ob, its, k, h1, h2, _⟩
      · exact hS
      · exfalso
        rw [List.all_eq_true] at e2
        have := e2 (a, ob) (frag_mem h1)
        unfold noLst at this
        dsimp only at this
        rw [h2] at this
        exact absurd rfl (of_decide_eq_true this)
    refine ⟨fun b => b = a, [.da .s (.lst (ns.map D.int))], ?_, ⟨rfl, fun i => ?_, fun i j b h1 _ => ?_, fun b ⟨i, q⟩ => ?_, fun b hb => ?_⟩, ?_⟩
    · intro e he
      rw [List.mem_singleton.mp he]
      trivial
    · cases i with
      | zero => exact ⟨.ref a, rfl, .lst rfl hr (rpl_ints ns)⟩
      | succ i => exact trivial
    · obtain ⟨⟨w', d', q, hw⟩, _⟩ := h1
      cases i with
      | zero => cases q; exact absurd rfl hw
      | succ i => cases q
    · obtain ⟨⟨w', d', q, hw⟩, _⟩ := q
      cases i with
      | zero => cases q; exact absurd rfl hw
      | succ i => cases q
    · subst hb
      rcases hr with hr | ⟨_, hr⟩ <;> (rw [hr]; exact fun z => nomatch z)
    · rw [e]
      intro v H' Z' g hv
      cases o with
      | false =>
        cases hv
        rfl
      | true =>
        obtain ⟨b, _, q, _⟩ := hv
        cases q
  · obtain ⟨fd', q1, q2, q3, q4, q5, _⟩ := all_ok (P := P) (w := w) (base := base) rfl hpx M Ds n kl f hfk
    have efd : fd = fd' := by
      obtain ⟨oc, od, dV, kV, doc, pm, an, cdv, ct, osl, _, lk1, _, _, _⟩ := F.ex
      obtain ⟨oc', od', dV', kV', doc', pm', an', cdv', ct', osl', _, lk2, _, _, _⟩ := q4.ex
      rw [lk1] at lk2
      cases lk2
      rfl
    subst efd
    rw [el, hps] at q5
    exact fn_calm q5
end
end G
set_option maxHeartbeats 4000000
/-! the table of defs (printed by gen2.py) -/
namespace G
open PySem L2
abbrev k_is_int : Nat := 1
abbrev k_is_within : Nat := 2
abbrev k_is_sized : Nat := 3
abbrev k_is_rising : Nat := 4
abbrev k_is_last : Nat := 5
abbrev k_are_rooted : Nat := 6
abbrev k_are_lasts : Nat := 7
abbrev k_is_bound : Nat := 8
abbrev k_are_bounds : Nat := 9
abbrev k_is_net : Nat := 10
abbrev k_check_net : Nat := 11
abbrev k_raw_ends : Nat := 12
abbrev k_raw_ours : Nat := 13
abbrev k_raw_last_of : Nat := 14
abbrev k_ends_of : Nat := 15
abbrev k_ours_of : Nat := 16
abbrev k_last_of : Nat := 17
abbrev k_raw_all_bounds : Nat := 18
abbrev k_all_bounds : Nat := 19
abbrev k_raw_horizon : Nat := 20
abbrev k_horizon : Nat := 21
abbrev k__law_draws : Nat := 22
abbrev k__law_take : Nat := 23
abbrev k__law_order : Nat := 24
abbrev k__law_lasts : Nat := 25
abbrev k__law_bounds : Nat := 26
abbrev k__law_couple : Nat := 27
abbrev k__law_net : Nat := 28
abbrev k__law_all : Nat := 29
abbrev k__law_last : Nat := 30
abbrev k_law : Nat := 31
abbrev k_raw_are_times : Nat := 32
abbrev k_are_times : Nat := 33
abbrev k_check_times : Nat := 34
abbrev k_lengths_of : Nat := 35
abbrev k_raw_broken : Nat := 36
abbrev k_broken : Nat := 37
abbrev k_is_kept : Nat := 38
abbrev k__law_draws_v2 : Nat := 39
abbrev k__law_broken : Nat := 40
abbrev k__law_flagged : Nat := 41
abbrev k__law_word : Nat := 42
abbrev k__law_near : Nat := 43
abbrev k_law_v2 : Nat := 44
abbrev k__law_draws_v3 : Nat := 45
abbrev k__law_pairs : Nat := 46
abbrev k__law_bad : Nat := 47
abbrev k__law_are_refused : Nat := 48
abbrev k_law_v3 : Nat := 49
abbrev g_MOST_LENGTH : Nat := 1
abbrev g_MOST_LASTS : Nat := 2
abbrev g_MOST_WORTH : Nat := 3
abbrev g_MOST_BOUNDS : Nat := 4
abbrev g_MOST_EVENTS : Nat := 5
abbrev c_PlanError : Nat := 1
abbrev c_NoNet : Nat := 2
abbrev c_NoEnd : Nat := 3
abbrev c_NoTimes : Nat := 4
abbrev c_ValueError : Nat := 900
abbrev c_Exception : Nat := 901
abbrev c_TypeError : Nat := 902
abbrev c_KeyError : Nat := 903
abbrev c_IndexError : Nat := 904
def df_is_int : Df := ⟨1, 1, (.cons (.ret (.and (.isi .int (.var 0)) (.op1 .not (.isi .bool (.var 0)))))
 .nil)⟩
def df_is_within : Df := ⟨3, 3, (.cons (.ret (.and (.call k_is_int (.cons (.var 0) .nil)) (.chain .le .le (.var 1) (.var 0) (.var 2))))
 .nil)⟩
def df_is_sized : Df := ⟨3, 3, (.cons (.ret (.and (.isi .tuple (.var 0)) (.chain .le .le (.var 1) (.bi .len (.cons (.var 0) .nil)) (.var 2))))
 .nil)⟩
abbrev e_is_rising_1 : Ex := (.op2 .lt (.var 1) (.var 2))
abbrev s_is_rising_1 : Tes := .nil
def df_is_rising : Df := ⟨1, 3, (.cons (.ret (.bi .all (.cons (.comp [1, 2] e_is_rising_1 (.t (.cons (.v 1) (.cons (.v 2) .nil))) (.zip (.var 0) (.sl (.var 0) (.so (.int 1)) .no)) s_is_rising_1) .nil)))
 .nil)⟩
def df_is_last : Df := ⟨2, 2, (.cons (.ife (.or (.not (.tru (.call k_is_sized (.cons (.var 1) (.cons (.int 4) (.cons (.int 4) .nil)))))) (.or (.not (.tru (.call k_is_within (.cons (.idx (.var 1) (.int 0)) (.cons (.int 0) (.cons (.op2 .sub (.var 0) (.int 1)) .nil)))))) (.not (.tru (.call k_is_within (.cons (.idx (.var 1) (.int 3)) (.cons (.int 1) (.cons (.op2 .sub (.var 0) (.int 1)) .nil)))))))) (.cons (.ret (.bl false))
 .nil) .nil)
 (.cons (.ife (.or (.not (.tru (.call k_is_within (.cons (.idx (.var 1) (.int 1)) (.cons (.int 1) (.cons (.gc g_MOST_LENGTH) .nil)))))) (.not (.tru (.call k_is_within (.cons (.idx (.var 1) (.int 2)) (.cons (.int 1) (.cons (.gc g_MOST_LENGTH) .nil))))))) (.cons (.ret (.bl false))
 .nil) .nil)
 (.cons (.ret (.and (.op2 .le (.idx (.var 1) (.int 1)) (.idx (.var 1) (.int 2))) (.op2 .ne (.idx (.var 1) (.int 0)) (.idx (.var 1) (.int 3)))))
 .nil)))⟩
abbrev t_are_rooted_1 : Te := (.and (.val (.op2 .isin (.var 4) (.var 1))) (.val (.op2 .le (.var 5) (.bi .len (.cons (.var 0) .nil)))))
abbrev b_are_rooted_1 : Sts := (.cons (.par [4, 5] (.cons (.idx (.var 1) (.var 4)) (.cons (.op2 .add (.var 5) (.int 1)) .nil)))
 .nil)
abbrev b_are_rooted_2 : Sts := (.cons (.par [4, 5] (.cons (.var 3) (.cons (.int 0) .nil)))
 (.cons (.whl t_are_rooted_1 b_are_rooted_1)
 (.cons (.ife (.val (.op2 .isin (.var 4) (.var 1))) (.cons (.ret (.bl false))
 .nil) .nil)
 .nil)))
abbrev y_are_rooted_3 : Ex := (.idx (.var 2) (.int 3))
abbrev e_are_rooted_3 : Ex := (.idx (.var 2) (.int 0))
abbrev s_are_rooted_3 : Tes := .nil
def df_are_rooted : Df := ⟨1, 6, (.cons (.asg (.v 1) (.dcomp [2] y_are_rooted_3 e_are_rooted_3 (.v 2) (.val (.var 0)) s_are_rooted_3))
 (.cons (.ife (.val (.op2 .ne (.bi .len (.cons (.var 1) .nil)) (.bi .len (.cons (.var 0) .nil)))) (.cons (.ret (.bl false))
 .nil) .nil)
 (.cons (.for_ (.v 3) (.keys 1) b_are_rooted_2)
 (.cons (.ret (.bl true))
 .nil))))⟩
abbrev e_are_lasts_1 : Ex := (.call k_is_last (.cons (.var 0) (.cons (.var 2) .nil)))
abbrev s_are_lasts_1 : Tes := .nil
def df_are_lasts : Df := ⟨2, 3, (.cons (.ife (.or (.not (.tru (.call k_is_sized (.cons (.var 1) (.cons (.int 0) (.cons (.gc g_MOST_LASTS) .nil)))))) (.not (.tru (.bi .all (.cons (.comp [2] e_are_lasts_1 (.v 2) (.val (.var 1)) s_are_lasts_1) .nil))))) (.cons (.ret (.bl false))
 .nil) .nil)
 (.cons (.ret (.and (.call k_is_rising (.cons (.var 1) .nil)) (.call k_are_rooted (.cons (.var 1) .nil))))
 .nil))⟩
def df_is_bound : Df := ⟨2, 2, (.cons (.ife (.or (.not (.tru (.call k_is_sized (.cons (.var 1) (.cons (.int 3) (.cons (.int 3) .nil)))))) (.or (.not (.tru (.call k_is_within (.cons (.idx (.var 1) (.int 0)) (.cons (.int 0) (.cons (.op2 .sub (.var 0) (.int 1)) .nil)))))) (.not (.tru (.call k_is_within (.cons (.idx (.var 1) (.int 1)) (.cons (.int 0) (.cons (.op2 .sub (.var 0) (.int 1)) .nil)))))))) (.cons (.ret (.bl false))
 .nil) .nil)
 (.cons (.ret (.and (.op2 .ne (.idx (.var 1) (.int 0)) (.idx (.var 1) (.int 1))) (.call k_is_within (.cons (.idx (.var 1) (.int 2)) (.cons (.op2 .sub (.int 0) (.gc g_MOST_WORTH)) (.cons (.gc g_MOST_WORTH) .nil))))))
 .nil))⟩
abbrev e_are_bounds_1 : Ex := (.op2 .lt (.sl (.var 2) .no (.so (.int 2))) (.sl (.var 3) .no (.so (.int 2))))
abbrev s_are_bounds_1 : Tes := .nil
abbrev e_are_bounds_2 : Ex := (.call k_is_bound (.cons (.var 0) (.cons (.var 2) .nil)))
abbrev s_are_bounds_2 : Tes := .nil
def df_are_bounds : Df := ⟨2, 4, (.cons (.ife (.or (.not (.tru (.call k_is_sized (.cons (.var 1) (.cons (.int 0) (.cons (.gc g_MOST_BOUNDS) .nil)))))) (.not (.tru (.bi .all (.cons (.comp [2] e_are_bounds_2 (.v 2) (.val (.var 1)) s_are_bounds_2) .nil))))) (.cons (.ret (.bl false))
 .nil) .nil)
 (.cons (.ret (.bi .all (.cons (.comp [2, 3] e_are_bounds_1 (.t (.cons (.v 2) (.cons (.v 3) .nil))) (.zip (.var 1) (.sl (.var 1) (.so (.int 1)) .no)) s_are_bounds_1) .nil)))
 .nil))⟩
def df_is_net : Df := ⟨1, 1, (.cons (.ife (.or (.not (.tru (.call k_is_sized (.cons (.var 0) (.cons (.int 3) (.cons (.int 3) .nil)))))) (.not (.tru (.call k_is_within (.cons (.idx (.var 0) (.int 0)) (.cons (.int 1) (.cons (.gc g_MOST_EVENTS) .nil))))))) (.cons (.ret (.bl false))
 .nil) .nil)
 (.cons (.ret (.and (.call k_are_bounds (.cons (.idx (.var 0) (.int 0)) (.cons (.idx (.var 0) (.int 1)) .nil))) (.call k_are_lasts (.cons (.idx (.var 0) (.int 0)) (.cons (.idx (.var 0) (.int 2)) .nil)))))
 .nil))⟩
def df_check_net : Df := ⟨1, 1, (.cons (.ife (.not (.tru (.call k_is_net (.cons (.var 0) .nil)))) (.cons (.rai c_NoNet .nil)
 .nil) .nil)
 .nil)⟩
abbrev e_raw_ends_1 : Ex := (.idx (.var 1) (.int 3))
abbrev s_raw_ends_1 : Tes := .nil
def df_raw_ends : Df := ⟨1, 2, (.cons (.ret (.bi .tuple (.cons (.bi .sorted (.cons (.comp [1] e_raw_ends_1 (.v 1) (.val (.idx (.var 0) (.int 2))) s_raw_ends_1) .nil)) .nil)))
 .nil)⟩
abbrev e_raw_ours_1 : Ex := (.var 2)
abbrev s_raw_ours_1 : Tes := (.one (.val (.op2 .notin (.var 2) (.var 1))))
def df_raw_ours : Df := ⟨1, 3, (.cons (.asg (.v 1) (.call k_raw_ends (.cons (.var 0) .nil)))
 (.cons (.ret (.bi .tuple (.cons (.comp [2] e_raw_ours_1 (.v 2) (.rng2 (.int 1) (.idx (.var 0) (.int 0))) s_raw_ours_1) .nil)))
 .nil))⟩
abbrev e_raw_last_of_1 : Ex := (.var 3)
abbrev s_raw_last_of_1 : Tes := (.one (.val (.op2 .eq (.idx (.var 4) (.int 3)) (.var 1))))
def df_raw_last_of : Df := ⟨2, 5, (.cons (.asg (.v 2) (.comp [3, 4] e_raw_last_of_1 (.t (.cons (.v 3) (.cons (.v 4) .nil))) (.enm (.idx (.var 0) (.int 2))) s_raw_last_of_1))
 (.cons (.ret (.ife (.val (.op2 .gt (.bi .len (.cons (.var 2) .nil)) (.int 0))) (.idx (.var 2) (.int 0)) .non))
 .nil))⟩
def df_ends_of : Df := ⟨1, 1, (.cons (.exp (.call k_check_net (.cons (.var 0) .nil)))
 (.cons (.ret (.call k_raw_ends (.cons (.var 0) .nil)))
 .nil))⟩
def df_ours_of : Df := ⟨1, 1, (.cons (.exp (.call k_check_net (.cons (.var 0) .nil)))
 (.cons (.ret (.call k_raw_ours (.cons (.var 0) .nil)))
 .nil))⟩
def df_last_of : Df := ⟨2, 2, (.cons (.exp (.call k_check_net (.cons (.var 0) .nil)))
 (.cons (.ife (.or (.not (.tru (.call k_is_int (.cons (.var 1) .nil)))) (.val (.op1 .isN (.call k_raw_last_of (.cons (.var 0) (.cons (.var 1) .nil)))))) (.cons (.rai c_NoEnd .nil)
 .nil) .nil)
 (.cons (.ret (.call k_raw_last_of (.cons (.var 0) (.cons (.var 1) .nil))))
 .nil)))⟩
abbrev e_raw_all_bounds_1 : Ex := (.tup (.cons (.var 6) (.cons (.int 0) (.cons (.int 0) .nil))))
abbrev s_raw_all_bounds_1 : Tes := .nil
abbrev b_raw_all_bounds_2 : Sts := (.cons (.asg (.v 1) (.op2 .add (.var 1) (.lst (.cons (.tup (.cons (.var 2) (.cons (.var 5) (.cons (.var 4) .nil)))) (.cons (.tup (.cons (.var 5) (.cons (.var 2) (.cons (.op2 .sub (.int 0) (.var 3)) .nil)))) .nil)))))
 .nil)
def df_raw_all_bounds : Df := ⟨1, 7, (.cons (.asg (.v 1) (.bi .list (.cons (.idx (.var 0) (.int 1)) .nil)))
 (.cons (.for_ (.t (.cons (.v 2) (.cons (.v 3) (.cons (.v 4) (.cons (.v 5) .nil))))) (.val (.idx (.var 0) (.int 2))) b_raw_all_bounds_2)
 (.cons (.ret (.bi .tuple (.cons (.op2 .add (.var 1) (.comp [6] e_raw_all_bounds_1 (.v 6) (.rng2 (.int 1) (.idx (.var 0) (.int 0))) s_raw_all_bounds_1)) .nil)))
 .nil)))⟩
def df_all_bounds : Df := ⟨1, 1, (.cons (.exp (.call k_check_net (.cons (.var 0) .nil)))
 (.cons (.ret (.call k_raw_all_bounds (.cons (.var 0) .nil)))
 .nil))⟩
abbrev e_raw_horizon_1 : Ex := (.bi .abs (.cons (.idx (.var 1) (.int 2)) .nil))
abbrev s_raw_horizon_1 : Tes := .nil
abbrev e_raw_horizon_2 : Ex := (.idx (.var 2) (.int 2))
abbrev s_raw_horizon_2 : Tes := .nil
def df_raw_horizon : Df := ⟨1, 3, (.cons (.ret (.op2 .add (.op2 .add (.op2 .add (.idx (.var 0) (.int 0)) (.int 1)) (.bi .sum (.cons (.comp [1] e_raw_horizon_1 (.v 1) (.val (.idx (.var 0) (.int 1))) s_raw_horizon_1) .nil))) (.bi .sum (.cons (.comp [2] e_raw_horizon_2 (.v 2) (.val (.idx (.var 0) (.int 2))) s_raw_horizon_2) .nil))))
 .nil)⟩
def df_horizon : Df := ⟨1, 1, (.cons (.exp (.call k_check_net (.cons (.var 0) .nil)))
 (.cons (.ret (.call k_raw_horizon (.cons (.var 0) .nil)))
 .nil))⟩
abbrev b__law_draws_1 : Sts := (.cons (.asg (.v 6) (.var 4))
 (.cons (.ife (.tru (.var 0)) (.cons (.asg (.v 6) (.op2 .mod (.bi .int (.cons (.idx (.var 0) (.op2 .mod (.op2 .add (.var 4) (.int 1)) (.bi .len (.cons (.var 0) .nil)))) .nil)) (.int 2147483647)))
 .nil) .nil)
 (.cons (.asg (.v 5) (.op2 .mod (.bi .int (.cons (.op2 .add (.op2 .add (.op2 .add (.op2 .mul (.var 5) (.int 48271)) (.var 6)) (.op2 .mul (.var 4) (.int 69621))) (.int 13)) .nil)) (.int 2147483647)))
 (.cons (.app 2 (.op2 .mod (.op2 .fdv (.op2 .mod (.bi .int (.cons (.op2 .add (.op2 .mul (.var 5) (.int 16807)) (.int 54321)) .nil)) (.int 2147483647)) (.int 7)) (.int 1009)))
 .nil))))
abbrev b__law_draws_2 : Sts := (.cons (.ife (.val (.op2 .gt (.var 3) (.int 0))) (.cons (.app 2 (.op2 .mod (.bi .int (.cons (.var 3) .nil)) (.int 1009)))
 (.cons (.asg (.v 3) (.op2 .fdv (.var 3) (.int 1009)))
 .nil)) .nil)
 .nil)
def df__law_draws : Df := ⟨2, 7, (.cons (.asg (.v 2) (.lst .nil))
 (.cons (.asg (.v 3) (.ife (.tru (.var 0)) (.idx (.var 0) (.int 0)) (.int 0)))
 (.cons (.ife (.val (.op2 .lt (.var 3) (.int 0))) (.cons (.asg (.v 3) (.op1 .neg (.var 3)))
 .nil) .nil)
 (.cons (.ife (.val (.op2 .ge (.var 3) (.int 1000000000000000000))) (.cons (.for_ (.v 4) (.rng1 (.var 1)) b__law_draws_2)
 .nil) .nil)
 (.cons (.asg (.v 5) (.int 15))
 (.cons (.for_ (.v 4) (.rng1 (.op2 .sub (.var 1) (.bi .len (.cons (.var 2) .nil)))) b__law_draws_1)
 (.cons (.ret (.var 2))
 .nil)))))))⟩
def df__law_take : Df := ⟨2, 2, (.cons (.ife (.not (.tru (.var 0))) (.cons (.ret (.int 0))
 .nil) .nil)
 (.cons (.ret (.op2 .mod (.bi .int (.cons (.pop 0) .nil)) (.var 1)))
 .nil))⟩
abbrev b__law_order_1 : Sts := (.cons (.app 3 (.popAt 2 (.call k__law_take (.cons (.var 0) (.cons (.bi .len (.cons (.var 2) .nil)) .nil)))))
 .nil)
def df__law_order : Df := ⟨2, 5, (.cons (.par [2, 3] (.cons (.lrg2 (.int 1) (.var 1)) (.cons (.lst (.cons (.int 0) .nil)) .nil)))
 (.cons (.for_ (.v 4) (.rng1 (.op2 .sub (.var 1) (.int 1))) b__law_order_1)
 (.cons (.ret (.var 3))
 .nil)))⟩
abbrev b__law_lasts_1 : Sts := (.cons (.ife (.and (.val (.op2 .lt (.bi .len (.cons (.var 4) .nil)) (.var 2))) (.val (.op2 .lt (.call k__law_take (.cons (.var 0) (.cons (.int 5) .nil))) (.int 4)))) (.cons (.asg (.v 6) (.op2 .add (.int 1) (.call k__law_take (.cons (.var 0) (.cons (.int 4) .nil)))))
 (.cons (.asg (.v 7) (.op2 .add (.var 6) (.call k__law_take (.cons (.var 0) (.cons (.var 3) .nil)))))
 (.cons (.app 4 (.tup (.cons (.idx (.var 1) (.call k__law_take (.cons (.var 0) (.cons (.var 5) .nil)))) (.cons (.var 6) (.cons (.var 7) (.cons (.idx (.var 1) (.var 5)) .nil))))))
 .nil))) .nil)
 .nil)
def df__law_lasts : Df := ⟨4, 8, (.cons (.asg (.v 4) (.lst .nil))
 (.cons (.for_ (.v 5) (.rng2 (.int 1) (.bi .len (.cons (.var 1) .nil))) b__law_lasts_1)
 (.cons (.ret (.bi .tuple (.cons (.bi .sorted (.cons (.var 4) .nil)) .nil)))
 .nil)))⟩
abbrev e__law_bounds_1 : Ex := (.tup (.cons (.idx (.var 9) (.int 0)) (.cons (.idx (.var 9) (.int 1)) (.cons (.idx (.var 5) (.var 9)) .nil))))
abbrev s__law_bounds_1 : Tes := .nil
abbrev b__law_bounds_2 : Sts := (.cons (.par [7, 8] (.cons (.call k__law_take (.cons (.var 0) (.cons (.var 1) .nil))) (.cons (.call k__law_take (.cons (.var 0) (.cons (.var 1) .nil))) .nil)))
 (.cons (.ife (.val (.op2 .ne (.var 7) (.var 8))) (.cons (.asg (.ix 5 (.tup (.cons (.var 7) (.cons (.var 8) .nil)))) (.op2 .add (.var 3) (.call k__law_take (.cons (.var 0) (.cons (.var 4) .nil)))))
 .nil) .nil)
 .nil))
def df__law_bounds : Df := ⟨5, 10, (.cons (.asg (.v 5) (.dnew true))
 (.cons (.for_ (.v 6) (.rng1 (.op2 .add (.int 1) (.call k__law_take (.cons (.var 0) (.cons (.var 2) .nil))))) b__law_bounds_2)
 (.cons (.ret (.bi .tuple (.cons (.comp [9] e__law_bounds_1 (.v 9) (.val (.bi .sorted (.cons (.var 5) .nil))) s__law_bounds_1) .nil)))
 .nil)))⟩
def df__law_couple : Df := ⟨4, 10, (.cons (.asg (.t (.cons (.v 4) (.cons (.v 5) (.cons (.v 6) (.cons (.v 7) .nil))))) (.var 2))
 (.cons (.par [8, 9] (.cons (.call k__law_take (.cons (.var 0) (.cons (.int 6) .nil))) (.cons (.op2 .add (.int 1) (.call k__law_take (.cons (.var 0) (.cons (.var 5) .nil)))) .nil)))
 (.cons (.ife (.val (.op2 .eq (.var 8) (.int 0))) (.cons (.asg (.t (.cons (.ix 1 (.tup (.cons (.var 7) (.cons (.var 3) .nil)))) (.cons (.ix 1 (.tup (.cons (.var 3) (.cons (.var 7) .nil)))) .nil))) (.tup (.cons (.op2 .sub (.int 0) (.var 9)) (.cons (.op2 .add (.var 9) (.call k__law_take (.cons (.var 0) (.cons (.bi .max2 (.cons (.int 1) (.cons (.op2 .sub (.var 6) (.var 5)) .nil))) .nil)))) .nil))))
 .nil) (.cons (.ife (.val (.op2 .eq (.var 8) (.int 1))) (.cons (.asg (.t (.cons (.ix 1 (.tup (.cons (.var 7) (.cons (.var 3) .nil)))) (.cons (.ix 1 (.tup (.cons (.var 3) (.cons (.var 7) .nil)))) .nil))) (.tup (.cons (.op2 .sub (.int 0) (.var 9)) (.cons (.op2 .add (.op2 .sub (.op2 .add (.var 9) (.var 6)) (.var 5)) (.call k__law_take (.cons (.var 0) (.cons (.int 3) .nil)))) .nil))))
 .nil) (.cons (.ife (.val (.op2 .eq (.var 8) (.int 2))) (.cons (.asg (.t (.cons (.ix 1 (.tup (.cons (.var 7) (.cons (.var 3) .nil)))) (.cons (.ix 1 (.tup (.cons (.var 3) (.cons (.var 7) .nil)))) .nil))) (.tup (.cons (.call k__law_take (.cons (.var 0) (.cons (.int 4) .nil))) (.cons (.call k__law_take (.cons (.var 0) (.cons (.int 4) .nil))) .nil))))
 .nil) (.cons (.ife (.val (.op2 .eq (.var 8) (.int 3))) (.cons (.asg (.ix 1 (.tup (.cons (.var 3) (.cons (.var 7) .nil)))) (.op2 .sub (.int 0) (.call k__law_take (.cons (.var 0) (.cons (.int 3) .nil)))))
 (.cons (.asg (.ix 1 (.tup (.cons (.var 7) (.cons (.var 3) .nil)))) (.op2 .sub (.call k__law_take (.cons (.var 0) (.cons (.int 3) .nil))) (.idx (.var 1) (.tup (.cons (.var 3) (.cons (.var 7) .nil))))))
 .nil)) (.cons (.ife (.val (.op2 .eq (.var 8) (.int 4))) (.cons (.asg (.ix 1 (.tup (.cons (.var 3) (.cons (.var 7) .nil)))) (.call k__law_take (.cons (.var 0) (.cons (.var 6) .nil))))
 .nil) .nil)
 .nil))
 .nil))
 .nil))
 .nil))
 .nil)))⟩
abbrev e__law_net_1 : Ex := (.tup (.cons (.idx (.var 14) (.int 0)) (.cons (.idx (.var 14) (.int 1)) (.cons (.idx (.var 9) (.var 14)) .nil))))
abbrev s__law_net_1 : Tes := .nil
abbrev b__law_net_2 : Sts := (.cons (.ife (.and (.val (.op2 .notin (.tup (.cons (.var 11) (.cons (.var 12) .nil))) (.var 9))) (.val (.op2 .gt (.call k__law_take (.cons (.var 0) (.cons (.int 3) .nil))) (.int 0)))) (.cons (.asg (.ix 9 (.tup (.cons (.var 11) (.cons (.var 12) .nil)))) (.var 13))
 .nil) .nil)
 .nil)
abbrev b__law_net_3 : Sts := (.cons (.ife (.and (.tru (.var 8)) (.val (.op2 .gt (.call k__law_take (.cons (.var 0) (.cons (.int 6) .nil))) (.int 0)))) (.cons (.exp (.call k__law_couple (.cons (.var 0) (.cons (.var 9) (.cons (.var 7) (.cons (.idx (.var 8) (.call k__law_take (.cons (.var 0) (.cons (.bi .len (.cons (.var 8) .nil)) .nil)))) .nil))))))
 .nil) .nil)
 .nil)
abbrev e__law_net_4 : Ex := (.var 10)
abbrev s__law_net_4 : Tes := (.one (.val (.op2 .notin (.var 10) (.var 6))))
abbrev e__law_net_5 : Ex := (.idx (.var 7) (.int 3))
abbrev s__law_net_5 : Tes := .nil
def df__law_net : Df := ⟨4, 15, (.cons (.asg (.v 4) (.op2 .add (.var 1) (.call k__law_take (.cons (.var 0) (.cons (.op2 .add (.op2 .sub (.var 2) (.var 1)) (.int 1)) .nil)))))
 (.cons (.asg (.v 5) (.call k__law_lasts (.cons (.var 0) (.cons (.call k__law_order (.cons (.var 0) (.cons (.var 4) .nil))) (.cons (.bi .min2 (.cons (.var 3) (.cons (.bi .max2 (.cons (.int 1) (.cons (.op2 .sub (.var 4) (.int 2)) .nil))) .nil))) (.cons (.int 4) .nil))))))
 (.cons (.asg (.v 6) (.comp [7] e__law_net_5 (.v 7) (.val (.var 5)) s__law_net_5))
 (.cons (.par [8, 9] (.cons (.comp [10] e__law_net_4 (.v 10) (.rng2 (.int 1) (.var 4)) s__law_net_4) (.cons (.dnew true) .nil)))
 (.cons (.for_ (.v 7) (.val (.var 5)) b__law_net_3)
 (.cons (.for_ (.t (.cons (.v 11) (.cons (.v 12) (.cons (.v 13) .nil)))) (.val (.call k__law_bounds (.cons (.var 0) (.cons (.var 4) (.cons (.op2 .add (.int 1) (.op2 .fdv (.var 4) (.int 3))) (.cons (.op2 .sub (.call k__law_take (.cons (.var 0) (.cons (.int 3) .nil))) (.int 1)) (.cons (.int 12) .nil))))))) b__law_net_2)
 (.cons (.ret (.tup (.cons (.var 4) (.cons (.bi .tuple (.cons (.comp [14] e__law_net_1 (.v 14) (.val (.bi .sorted (.cons (.var 9) .nil))) s__law_net_1) .nil)) (.cons (.var 5) .nil)))))
 .nil)))))))⟩
abbrev e__law_all_1 : Ex := (.tup (.cons (.var 6) (.cons (.int 0) (.cons (.int 0) .nil))))
abbrev s__law_all_1 : Tes := .nil
abbrev b__law_all_2 : Sts := (.cons (.app 1 (.tup (.cons (.var 2) (.cons (.var 5) (.cons (.var 4) .nil)))))
 (.cons (.app 1 (.tup (.cons (.var 5) (.cons (.var 2) (.cons (.op2 .sub (.int 0) (.var 3)) .nil)))))
 .nil))
def df__law_all : Df := ⟨1, 7, (.cons (.asg (.v 1) (.bi .list (.cons (.idx (.var 0) (.int 1)) .nil)))
 (.cons (.for_ (.t (.cons (.v 2) (.cons (.v 3) (.cons (.v 4) (.cons (.v 5) .nil))))) (.val (.idx (.var 0) (.int 2))) b__law_all_2)
 (.cons (.ret (.op2 .add (.var 1) (.comp [6] e__law_all_1 (.v 6) (.rng2 (.int 1) (.idx (.var 0) (.int 0))) s__law_all_1)))
 .nil)))⟩
def df__law_last : Df := ⟨2, 3, (.cons (.try1 (.cons (.ret (.call k_last_of (.cons (.var 0) (.cons (.var 1) .nil))))
 .nil) c_NoEnd (some 2) (.cons (.ret (.ife (.and (.tru (.isx 2 c_PlanError)) (.not (.tru (.isx 2 c_NoNet)))) .non (.str "strange")))
 .nil))
 .nil)⟩
abbrev e_law_1 : Ex := (.bi .abs (.cons (.var 16) .nil))
abbrev s_law_1 : Tes := .nil
abbrev e_law_2 : Ex := (.var 19)
abbrev s_law_2 : Tes := .nil
abbrev b_law_3 : Sts := (.cons (.ife (.val (.op1 .notN (.call k__law_last (.cons (.var 2) (.cons (.var 12) .nil))))) (.cons (.ret (.bl false))
 .nil) .nil)
 .nil)
abbrev e_law_4 : Ex := (.var 11)
abbrev s_law_4 : Tes := (.one (.val (.op2 .eq (.idx (.idx (.var 5) (.var 11)) (.int 3)) (.var 9))))
abbrev b_law_5 : Sts := (.cons (.asg (.v 10) (.comp [11] e_law_4 (.v 11) (.rng1 (.bi .len (.cons (.var 5) .nil))) s_law_4))
 (.cons (.ife (.val (.op2 .ne (.call k__law_last (.cons (.var 2) (.cons (.var 9) .nil))) (.ife (.tru (.var 10)) (.idx (.var 10) (.int 0)) .non))) (.cons (.ret (.bl false))
 .nil) .nil)
 .nil))
abbrev e_law_6 : Ex := (.var 9)
abbrev s_law_6 : Tes := (.one (.val (.op2 .notin (.var 9) (.var 6))))
abbrev e_law_7 : Ex := (.idx (.var 7) (.int 3))
abbrev s_law_7 : Tes := .nil
def df_law : Df := ⟨1, 21, (.cons (.asg (.v 1) (.call k__law_draws (.cons (.var 0) (.cons (.int 120) .nil))))
 (.cons (.asg (.v 2) (.call k__law_net (.cons (.var 1) (.cons (.int 2) (.cons (.int 6) (.cons (.int 3) .nil))))))
 (.cons (.asg (.t (.cons (.v 3) (.cons (.v 4) (.cons (.v 5) .nil)))) (.var 2))
 (.cons (.asg (.v 6) (.bi .sorted (.cons (.comp [7] e_law_7 (.v 7) (.val (.var 5)) s_law_7) .nil)))
 (.cons (.asg (.v 8) (.comp [9] e_law_6 (.v 9) (.rng2 (.int 1) (.var 3)) s_law_6))
 (.cons (.ife (.or (.val (.op2 .ne (.call k_ends_of (.cons (.var 2) .nil)) (.bi .tuple (.cons (.var 6) .nil)))) (.val (.op2 .ne (.call k_ours_of (.cons (.var 2) .nil)) (.bi .tuple (.cons (.var 8) .nil))))) (.cons (.ret (.bl false))
 .nil) .nil)
 (.cons (.for_ (.v 9) (.rng1 (.op2 .add (.var 3) (.int 2))) b_law_5)
 (.cons (.for_ (.v 12) (.val (.tup (.cons .non (.cons (.op1 .neg (.int 1)) (.cons (.str "1") (.cons (.bl true) (.cons (.bl false) (.cons (.tup (.cons (.int 1) .nil)) (.cons (.lst (.cons (.int 1) .nil)) (.cons (.op2 .pow (.int 10) (.int 17)) .nil)))))))))) b_law_3)
 (.cons (.ife (.val (.op2 .ne (.call k_all_bounds (.cons (.var 2) .nil)) (.bi .tuple (.cons (.call k__law_all (.cons (.var 2) .nil)) .nil)))) (.cons (.ret (.bl false))
 .nil) .nil)
 (.cons (.asg (.v 13) (.op2 .add (.op2 .add (.op2 .add (.var 3) (.int 1)) (.bi .sum (.cons (.comp [14, 15, 16] e_law_1 (.t (.cons (.v 14) (.cons (.v 15) (.cons (.v 16) .nil)))) (.val (.var 4)) s_law_1) .nil))) (.bi .sum (.cons (.comp [17, 18, 19, 20] e_law_2 (.t (.cons (.v 17) (.cons (.v 18) (.cons (.v 19) (.cons (.v 20) .nil))))) (.val (.var 5)) s_law_2) .nil))))
 (.cons (.ife (.val (.op2 .ne (.call k_horizon (.cons (.var 2) .nil)) (.var 13))) (.cons (.ret (.bl false))
 .nil) .nil)
 (.cons (.ret (.and (.op2 .eq (.call k_horizon (.cons (.tup (.cons (.var 3) (.cons (.tup .nil) (.cons (.tup .nil) .nil)))) .nil)) (.op2 .add (.var 3) (.int 1))) (.op2 .eq (.bi .len (.cons (.call k_all_bounds (.cons (.var 2) .nil)) .nil)) (.op2 .sub (.op2 .add (.op2 .add (.bi .len (.cons (.var 4) .nil)) (.op2 .mul (.int 2) (.bi .len (.cons (.var 5) .nil)))) (.var 3)) (.int 1)))))
 .nil))))))))))))⟩
abbrev e_raw_are_times_1 : Ex := (.and (.call k_is_int (.cons (.var 2) .nil)) (.op2 .ge (.var 2) (.int 0)))
abbrev s_raw_are_times_1 : Tes := .nil
def df_raw_are_times : Df := ⟨2, 3, (.cons (.ife (.not (.tru (.call k_is_sized (.cons (.var 1) (.cons (.idx (.var 0) (.int 0)) (.cons (.idx (.var 0) (.int 0)) .nil)))))) (.cons (.ret (.bl false))
 .nil) .nil)
 (.cons (.ret (.and (.bi .all (.cons (.comp [2] e_raw_are_times_1 (.v 2) (.val (.var 1)) s_raw_are_times_1) .nil)) (.op2 .eq (.idx (.var 1) (.int 0)) (.int 0))))
 .nil))⟩
def df_are_times : Df := ⟨2, 2, (.cons (.exp (.call k_check_net (.cons (.var 0) .nil)))
 (.cons (.ret (.call k_raw_are_times (.cons (.var 0) (.cons (.var 1) .nil))))
 .nil))⟩
def df_check_times : Df := ⟨2, 2, (.cons (.exp (.call k_check_net (.cons (.var 0) .nil)))
 (.cons (.ife (.not (.tru (.call k_raw_are_times (.cons (.var 0) (.cons (.var 1) .nil))))) (.cons (.rai c_NoTimes .nil)
 .nil) .nil)
 .nil))⟩
abbrev e_lengths_of_1 : Ex := (.op2 .sub (.idx (.var 1) (.var 5)) (.idx (.var 1) (.var 2)))
abbrev s_lengths_of_1 : Tes := .nil
def df_lengths_of : Df := ⟨2, 6, (.cons (.exp (.call k_check_times (.cons (.var 0) (.cons (.var 1) .nil))))
 (.cons (.ret (.bi .tuple (.cons (.comp [2, 3, 4, 5] e_lengths_of_1 (.t (.cons (.v 2) (.cons (.v 3) (.cons (.v 4) (.cons (.v 5) .nil))))) (.val (.idx (.var 0) (.int 2))) s_lengths_of_1) .nil)))
 .nil))⟩
abbrev b_raw_broken_1 : Sts := (.cons (.ife (.and (.val (.op1 .notN (.idx (.var 1) (.var 4)))) (.and (.val (.op1 .notN (.idx (.var 1) (.var 5)))) (.val (.op2 .gt (.op2 .sub (.idx (.var 1) (.var 5)) (.idx (.var 1) (.var 4))) (.var 6))))) (.cons (.app 2 (.var 3))
 .nil) .nil)
 .nil)
def df_raw_broken : Df := ⟨2, 7, (.cons (.asg (.v 2) (.lst .nil))
 (.cons (.for_ (.t (.cons (.v 3) (.cons (.t (.cons (.v 4) (.cons (.v 5) (.cons (.v 6) .nil)))) .nil))) (.enm (.call k_raw_all_bounds (.cons (.var 0) .nil))) b_raw_broken_1)
 (.cons (.ret (.bi .tuple (.cons (.var 2) .nil)))
 .nil)))⟩
def df_broken : Df := ⟨2, 2, (.cons (.exp (.call k_check_times (.cons (.var 0) (.cons (.var 1) .nil))))
 (.cons (.ret (.call k_raw_broken (.cons (.var 0) (.cons (.var 1) .nil))))
 .nil))⟩
def df_is_kept : Df := ⟨2, 2, (.cons (.exp (.call k_check_times (.cons (.var 0) (.cons (.var 1) .nil))))
 (.cons (.ret (.op2 .eq (.bi .len (.cons (.call k_raw_broken (.cons (.var 0) (.cons (.var 1) .nil))) .nil)) (.int 0)))
 .nil))⟩
abbrev b__law_draws_v2_1 : Sts := (.cons (.asg (.v 6) (.var 4))
 (.cons (.ife (.tru (.var 0)) (.cons (.asg (.v 6) (.op2 .mod (.bi .int (.cons (.idx (.var 0) (.op2 .mod (.op2 .add (.var 4) (.int 1)) (.bi .len (.cons (.var 0) .nil)))) .nil)) (.int 2147483647)))
 .nil) .nil)
 (.cons (.asg (.v 5) (.op2 .mod (.bi .int (.cons (.op2 .add (.op2 .add (.op2 .add (.op2 .mul (.var 5) (.int 48271)) (.var 6)) (.op2 .mul (.var 4) (.int 69621))) (.int 13)) .nil)) (.int 2147483647)))
 (.cons (.app 2 (.op2 .mod (.op2 .fdv (.op2 .mod (.bi .int (.cons (.op2 .add (.op2 .mul (.var 5) (.int 16807)) (.int 54321)) .nil)) (.int 2147483647)) (.int 7)) (.int 1009)))
 .nil))))
abbrev b__law_draws_v2_2 : Sts := (.cons (.ife (.val (.op2 .gt (.var 3) (.int 0))) (.cons (.app 2 (.op2 .mod (.bi .int (.cons (.var 3) .nil)) (.int 1009)))
 (.cons (.asg (.v 3) (.op2 .fdv (.var 3) (.int 1009)))
 .nil)) .nil)
 .nil)
def df__law_draws_v2 : Df := ⟨2, 7, (.cons (.asg (.v 2) (.lst .nil))
 (.cons (.asg (.v 3) (.ife (.tru (.var 0)) (.idx (.var 0) (.int 0)) (.int 0)))
 (.cons (.ife (.val (.op2 .lt (.var 3) (.int 0))) (.cons (.asg (.v 3) (.op1 .neg (.var 3)))
 .nil) .nil)
 (.cons (.ife (.val (.op2 .ge (.var 3) (.int 1000000000000000000))) (.cons (.for_ (.v 4) (.rng1 (.var 1)) b__law_draws_v2_2)
 .nil) .nil)
 (.cons (.asg (.v 5) (.int 19))
 (.cons (.for_ (.v 4) (.rng1 (.op2 .sub (.var 1) (.bi .len (.cons (.var 2) .nil)))) b__law_draws_v2_1)
 (.cons (.ret (.var 2))
 .nil)))))))⟩
abbrev e__law_broken_1 : Ex := (.var 3)
abbrev s__law_broken_1 : Tes := (.one (.val (.op2 .gt (.op2 .sub (.idx (.var 1) (.idx (.idx (.var 2) (.var 3)) (.int 1))) (.idx (.var 1) (.idx (.idx (.var 2) (.var 3)) (.int 0)))) (.idx (.idx (.var 2) (.var 3)) (.int 2)))))
def df__law_broken : Df := ⟨2, 4, (.cons (.asg (.v 2) (.call k__law_all (.cons (.var 0) .nil)))
 (.cons (.ret (.bi .tuple (.cons (.comp [3] e__law_broken_1 (.v 3) (.rng1 (.bi .len (.cons (.var 2) .nil))) s__law_broken_1) .nil)))
 .nil))⟩
abbrev b__law_flagged_1 : Sts := (.cons (.app 1 (.op2 .add (.op2 .add (.sl (.var 0) .no (.so (.var 2))) (.tup (.cons (.var 3) .nil))) (.sl (.var 0) (.so (.op2 .add (.var 2) (.int 1))) .no)))
 .nil)
abbrev b__law_flagged_2 : Sts := (.cons (.for_ (.v 3) (.val (.call k__law_flagged (.cons (.idx (.var 0) (.var 2)) .nil))) b__law_flagged_1)
 .nil)
def df__law_flagged : Df := ⟨1, 4, (.cons (.asg (.v 1) (.lst .nil))
 (.cons (.ife (.tru (.isi .tuple (.var 0))) (.cons (.for_ (.v 2) (.rng1 (.bi .len (.cons (.var 0) .nil))) b__law_flagged_2)
 .nil) (.cons (.ife (.and (.tru (.isi .int (.var 0))) (.and (.not (.tru (.isi .bool (.var 0)))) (.val (.chain .le .le (.int 0) (.var 0) (.int 1))))) (.cons (.app 1 (.op2 .eq (.var 0) (.int 1)))
 .nil) .nil)
 .nil))
 (.cons (.ret (.var 1))
 .nil)))⟩
def df__law_word : Df := ⟨3, 5, (.cons (.try1 (.cons (.exp (.callv 0 (.cons (.var 1) (.cons (.var 2) .nil))))
 .nil) c_PlanError (some 3) (.cons (.asg (.v 4) (.lst (.cons (.isx 3 c_NoTimes) (.cons (.isx 3 c_NoNet) .nil))))
 (.cons (.ret (.ife (.val (.op2 .eq (.mth .count (.var 4) (.cons (.bl true) .nil)) (.int 1))) (.idx (.lst (.cons (.str "times") (.cons (.str "net") .nil))) (.mth .index (.var 4) (.cons (.bl true) .nil))) (.str "strange")))
 .nil)))
 (.cons (.ret (.str "none"))
 .nil))⟩
abbrev b__law_near_1 : Sts := (.cons (.app 3 (.op2 .add (.op2 .add (.sl (.var 1) .no (.so (.var 2))) (.tup (.cons (.var 4) .nil))) (.sl (.var 1) (.so (.op2 .add (.var 2) (.int 1))) .no)))
 .nil)
def df__law_near : Df := ⟨2, 5, (.cons (.asg (.v 2) (.op2 .add (.int 1) (.call k__law_take (.cons (.var 0) (.cons (.op2 .sub (.bi .len (.cons (.var 1) .nil)) (.int 1)) .nil)))))
 (.cons (.asg (.v 3) (.lst (.cons (.op2 .add (.var 1) (.tup (.cons (.int 0) .nil))) (.cons (.sl (.var 1) .no (.so (.op1 .neg (.int 1)))) (.cons (.bi .list (.cons (.var 1) .nil)) (.cons .non (.cons (.tup .nil) (.cons (.str "0") (.cons (.op2 .add (.tup (.cons (.int 1) .nil)) (.sl (.var 1) (.so (.int 1)) .no)) (.cons (.op2 .add (.tup (.cons .non .nil)) (.sl (.var 1) (.so (.int 1)) .no)) .nil))))))))))
 (.cons (.for_ (.v 4) (.val (.tup (.cons (.op1 .neg (.int 1)) (.cons .non (.cons (.str "1") (.cons (.tup (.cons (.int 0) .nil)) (.cons (.op1 .neg (.op2 .pow (.int 10) (.int 17))) .nil))))))) b__law_near_1)
 (.cons (.asg (.v 3) (.op2 .add (.var 3) (.call k__law_flagged (.cons (.var 1) .nil))))
 (.cons (.ret (.idx (.var 3) (.call k__law_take (.cons (.var 0) (.cons (.bi .len (.cons (.var 3) .nil)) .nil)))))
 .nil)))))⟩
abbrev b_law_v2_1 : Sts := (.cons (.ife (.or (.val (.op2 .ne (.call k__law_word (.cons (.var 12) (.cons (.var 2) (.cons (.var 11) .nil)))) (.str "times"))) (.val (.op2 .ne (.call k__law_word (.cons (.var 12) (.cons (.bi .list (.cons (.var 2) .nil)) (.cons (.var 11) .nil)))) (.str "net")))) (.cons (.ret (.bl false))
 .nil) .nil)
 .nil)
abbrev e_law_v2_2 : Ex := (.op2 .sub (.idx (.var 4) (.var 10)) (.idx (.var 4) (.var 7)))
abbrev s_law_v2_2 : Tes := .nil
abbrev e_law_v2_3 : Ex := (.call k__law_take (.cons (.var 1) (.cons (.int 3) .nil)))
abbrev s_law_v2_3 : Tes := .nil
abbrev e_law_v2_4 : Ex := (.call k__law_take (.cons (.var 1) (.cons (.int 13) .nil)))
abbrev s_law_v2_4 : Tes := .nil
abbrev b_law_v2_5 : Sts := (.cons (.asg (.v 4) (.op2 .add (.tup (.cons (.int 0) .nil)) (.bi .tuple (.cons (.comp [5] e_law_v2_4 (.v 5) (.rng1 (.op2 .sub (.idx (.var 2) (.int 0)) (.int 1))) s_law_v2_4) .nil))))
 (.cons (.ife (.val (.op2 .eq (.var 3) (.int 1))) (.cons (.asg (.v 4) (.op2 .add (.tup (.cons (.int 0) .nil)) (.bi .tuple (.cons (.comp [5] e_law_v2_3 (.v 5) (.rng1 (.op2 .sub (.idx (.var 2) (.int 0)) (.int 1))) s_law_v2_3) .nil))))
 .nil) .nil)
 (.cons (.asg (.v 6) (.call k__law_broken (.cons (.var 2) (.cons (.var 4) .nil))))
 (.cons (.ife (.or (.val (.op2 .nisB (.call k_are_times (.cons (.var 2) (.cons (.var 4) .nil))) (.bl true))) (.val (.op2 .ne (.call k_broken (.cons (.var 2) (.cons (.var 4) .nil))) (.var 6)))) (.cons (.ret (.bl false))
 .nil) .nil)
 (.cons (.ife (.val (.op2 .ne (.call k_is_kept (.cons (.var 2) (.cons (.var 4) .nil))) (.op2 .eq (.bi .len (.cons (.var 6) .nil)) (.int 0)))) (.cons (.ret (.bl false))
 .nil) .nil)
 (.cons (.ife (.val (.op2 .ne (.call k_lengths_of (.cons (.var 2) (.cons (.var 4) .nil))) (.bi .tuple (.cons (.comp [7, 8, 9, 10] e_law_v2_2 (.t (.cons (.v 7) (.cons (.v 8) (.cons (.v 9) (.cons (.v 10) .nil))))) (.val (.idx (.var 2) (.int 2))) s_law_v2_2) .nil)))) (.cons (.ret (.bl false))
 .nil) .nil)
 (.cons (.asg (.v 11) (.call k__law_near (.cons (.var 1) (.cons (.var 4) .nil))))
 (.cons (.ife (.val (.op2 .nisB (.call k_are_times (.cons (.var 2) (.cons (.var 11) .nil))) (.bl false))) (.cons (.ret (.bl false))
 .nil) .nil)
 (.cons (.for_ (.v 12) (.val (.tup (.cons (.fnv k_broken) (.cons (.fnv k_is_kept) (.cons (.fnv k_lengths_of) .nil))))) b_law_v2_1)
 .nil)))))))))
def df_law_v2 : Df := ⟨1, 13, (.cons (.asg (.v 1) (.call k__law_draws_v2 (.cons (.var 0) (.cons (.int 160) .nil))))
 (.cons (.asg (.v 2) (.call k__law_net (.cons (.var 1) (.cons (.int 2) (.cons (.int 6) (.cons (.int 3) .nil))))))
 (.cons (.for_ (.v 3) (.rng1 (.int 3)) b_law_v2_5)
 (.cons (.ret (.bl true))
 .nil))))⟩
abbrev b__law_draws_v3_1 : Sts := (.cons (.asg (.v 6) (.var 4))
 (.cons (.ife (.tru (.var 0)) (.cons (.asg (.v 6) (.op2 .mod (.bi .int (.cons (.idx (.var 0) (.op2 .mod (.op2 .add (.var 4) (.int 1)) (.bi .len (.cons (.var 0) .nil)))) .nil)) (.int 2147483647)))
 .nil) .nil)
 (.cons (.asg (.v 5) (.op2 .mod (.bi .int (.cons (.op2 .add (.op2 .add (.op2 .add (.op2 .mul (.var 5) (.int 48271)) (.var 6)) (.op2 .mul (.var 4) (.int 69621))) (.int 13)) .nil)) (.int 2147483647)))
 (.cons (.app 2 (.op2 .mod (.op2 .fdv (.op2 .mod (.bi .int (.cons (.op2 .add (.op2 .mul (.var 5) (.int 16807)) (.int 54321)) .nil)) (.int 2147483647)) (.int 7)) (.int 1009)))
 .nil))))
abbrev b__law_draws_v3_2 : Sts := (.cons (.ife (.val (.op2 .gt (.var 3) (.int 0))) (.cons (.app 2 (.op2 .mod (.bi .int (.cons (.var 3) .nil)) (.int 1009)))
 (.cons (.asg (.v 3) (.op2 .fdv (.var 3) (.int 1009)))
 .nil)) .nil)
 .nil)
def df__law_draws_v3 : Df := ⟨2, 7, (.cons (.asg (.v 2) (.lst .nil))
 (.cons (.asg (.v 3) (.ife (.tru (.var 0)) (.idx (.var 0) (.int 0)) (.int 0)))
 (.cons (.ife (.val (.op2 .lt (.var 3) (.int 0))) (.cons (.asg (.v 3) (.op1 .neg (.var 3)))
 .nil) .nil)
 (.cons (.ife (.val (.op2 .ge (.var 3) (.int 1000000000000000000))) (.cons (.for_ (.v 4) (.rng1 (.var 1)) b__law_draws_v3_2)
 .nil) .nil)
 (.cons (.asg (.v 5) (.int 13))
 (.cons (.for_ (.v 4) (.rng1 (.op2 .sub (.var 1) (.bi .len (.cons (.var 2) .nil)))) b__law_draws_v3_1)
 (.cons (.ret (.var 2))
 .nil)))))))⟩
abbrev e__law_pairs_1 : Ex := (.tup (.cons (.var 3) (.cons (.var 4) (.cons (.var 1) .nil))))
abbrev s__law_pairs_1 : Tes := (.one (.val (.op2 .ne (.var 3) (.var 4))))
abbrev b__law_pairs_2 : Sts := (.cons (.ext 2 (.comp [4] e__law_pairs_1 (.v 4) (.rng1 (.var 0)) s__law_pairs_1))
 .nil)
def df__law_pairs : Df := ⟨2, 5, (.cons (.asg (.v 2) (.lst .nil))
 (.cons (.for_ (.v 3) (.rng1 (.var 0)) b__law_pairs_2)
 (.cons (.ret (.var 2))
 .nil)))⟩
abbrev e__law_bad_1 : Ex := (.tup (.cons (.int 0) (.cons (.int 1) (.cons (.int 1) (.cons (.var 6) .nil)))))
abbrev s__law_bad_1 : Tes := .nil
def df__law_bad : Df := ⟨2, 9, (.cons (.asg (.t (.cons (.v 2) (.cons (.v 3) (.cons (.v 4) .nil)))) (.var 1))
 (.cons (.asg (.v 5) (.bi .tuple (.cons (.comp [6] e__law_bad_1 (.v 6) (.rng2 (.int 1) (.int 7)) s__law_bad_1) .nil)))
 (.cons (.asg (.v 7) (.call k__law_pairs (.cons (.int 9) (.cons (.int 0) .nil))))
 (.cons (.asg (.v 8) (.lst (.cons (.bi .list (.cons (.var 1) .nil)) (.cons (.sl (.var 1) .no (.so (.int 2))) (.cons (.op2 .add (.var 1) (.tup (.cons (.tup .nil) .nil))) (.cons (.tup (.cons (.int 0) (.cons (.tup .nil) (.cons (.tup .nil) .nil)))) (.cons (.tup (.cons (.int 17) (.cons (.tup .nil) (.cons (.tup .nil) .nil)))) (.cons (.tup (.cons (.str "3") (.cons (.var 3) (.cons (.var 4) .nil)))) (.cons .non (.cons (.tup .nil) (.cons (.int 5) .nil)))))))))))
 (.cons (.asg (.v 8) (.op2 .add (.var 8) (.lst (.cons (.tup (.cons (.var 2) (.cons (.op2 .add (.var 3) (.tup (.cons (.tup (.cons (.int 0) (.cons (.int 0) (.cons (.int 1) .nil)))) .nil))) (.cons (.var 4) .nil)))) (.cons (.tup (.cons (.var 2) (.cons (.op2 .add (.var 3) (.tup (.cons (.tup (.cons (.int 0) (.cons (.var 2) (.cons (.int 1) .nil)))) .nil))) (.cons (.var 4) .nil)))) .nil)))))
 (.cons (.asg (.v 8) (.op2 .add (.var 8) (.lst (.cons (.tup (.cons (.var 2) (.cons (.op2 .add (.op2 .add (.var 3) (.sl (.var 3) (.so (.op1 .neg (.int 1))) .no)) (.tup (.cons (.tup (.cons (.int 0) (.cons (.var 2) (.cons (.int 0) .nil)))) .nil))) (.cons (.var 4) .nil)))) (.cons (.tup (.cons (.var 2) (.cons (.bi .list (.cons (.var 3) .nil)) (.cons (.var 4) .nil)))) .nil)))))
 (.cons (.asg (.v 8) (.op2 .add (.var 8) (.lst (.cons (.tup (.cons (.var 2) (.cons (.tup (.cons (.tup (.cons (.int 0) (.cons (.int 1) (.cons (.int 100001) .nil)))) .nil)) (.cons (.tup .nil) .nil)))) (.cons (.tup (.cons (.var 2) (.cons (.tup (.cons (.tup (.cons (.int 0) (.cons (.int 1) (.cons (.op1 .neg (.int 100001)) .nil)))) .nil)) (.cons (.tup .nil) .nil)))) (.cons (.tup (.cons (.var 2) (.cons (.tup (.cons (.tup (.cons (.int 0) (.cons (.int 1) (.cons .non .nil)))) .nil)) (.cons (.tup .nil) .nil)))) .nil))))))
 (.cons (.asg (.v 8) (.op2 .add (.var 8) (.lst (.cons (.tup (.cons (.int 3) (.cons (.tup (.cons (.tup (.cons (.int 0) (.cons (.int 1) (.cons (.int 1) .nil)))) (.cons (.tup (.cons (.int 0) (.cons (.int 1) (.cons (.int 2) .nil)))) .nil))) (.cons (.tup .nil) .nil)))) (.cons (.tup (.cons (.int 3) (.cons (.tup (.cons (.tup (.cons (.int 1) (.cons (.int 0) (.cons (.int 1) .nil)))) (.cons (.tup (.cons (.int 0) (.cons (.int 1) (.cons (.int 2) .nil)))) .nil))) (.cons (.tup .nil) .nil)))) (.cons (.tup (.cons (.int 3) (.cons (.tup (.cons (.tup (.cons (.int 0) (.cons (.int 1) .nil))) .nil)) (.cons (.tup .nil) .nil)))) .nil))))))
 (.cons (.asg (.v 8) (.op2 .add (.var 8) (.lst (.cons (.tup (.cons (.int 3) (.cons (.tup .nil) (.cons (.tup (.cons (.tup (.cons (.int 0) (.cons (.int 0) (.cons (.int 1) (.cons (.int 1) .nil))))) .nil)) .nil)))) (.cons (.tup (.cons (.int 3) (.cons (.tup .nil) (.cons (.tup (.cons (.tup (.cons (.int 0) (.cons (.int 3) (.cons (.int 2) (.cons (.int 1) .nil))))) .nil)) .nil)))) (.cons (.tup (.cons (.int 3) (.cons (.tup .nil) (.cons (.tup (.cons (.tup (.cons (.int 0) (.cons (.int 1) (.cons (.int 1001) (.cons (.int 1) .nil))))) .nil)) .nil)))) .nil))))))
 (.cons (.asg (.v 8) (.op2 .add (.var 8) (.lst (.cons (.tup (.cons (.int 3) (.cons (.tup .nil) (.cons (.tup (.cons (.tup (.cons (.int 1) (.cons (.int 1) (.cons (.int 2) (.cons (.int 0) .nil))))) .nil)) .nil)))) (.cons (.tup (.cons (.int 3) (.cons (.tup .nil) (.cons (.tup (.cons (.tup (.cons (.int 1) (.cons (.int 1) (.cons (.int 1) (.cons (.int 1) .nil))))) .nil)) .nil)))) (.cons (.tup (.cons (.int 3) (.cons (.tup .nil) (.cons (.tup (.cons (.tup (.cons (.int 1) (.cons (.int 1) (.cons (.int 1) (.cons (.int 2) .nil))))) (.cons (.tup (.cons (.int 2) (.cons (.int 1) (.cons (.int 1) (.cons (.int 1) .nil))))) .nil))) .nil)))) .nil))))))
 (.cons (.asg (.v 8) (.op2 .add (.var 8) (.lst (.cons (.tup (.cons (.int 3) (.cons (.tup .nil) (.cons (.tup (.cons (.tup (.cons (.int 0) (.cons (.int 1) (.cons (.int 1) (.cons (.int 1) .nil))))) (.cons (.tup (.cons (.int 0) (.cons (.int 1) (.cons (.int 2) (.cons (.int 1) .nil))))) .nil))) .nil)))) (.cons (.tup (.cons (.int 3) (.cons (.tup .nil) (.cons (.tup (.cons (.tup (.cons (.int 0) (.cons (.int 1) (.cons (.int 1) (.cons (.int 2) .nil))))) (.cons (.tup (.cons (.int 0) (.cons (.int 1) (.cons (.int 1) (.cons (.int 1) .nil))))) .nil))) .nil)))) (.cons (.tup (.cons (.int 3) (.cons (.tup .nil) (.cons (.lst .nil) .nil)))) .nil))))))
 (.cons (.asg (.v 8) (.op2 .add (.var 8) (.lst (.cons (.tup (.cons (.int 8) (.cons (.tup .nil) (.cons (.var 5) .nil)))) (.cons (.tup (.cons (.int 9) (.cons (.bi .tuple (.cons (.sl (.var 7) .no (.so (.int 61))) .nil)) (.cons (.tup .nil) .nil)))) (.cons (.tup (.cons (.int 3) (.cons (.tup .nil) (.cons (.tup (.cons (.tup (.cons (.int 0) (.cons (.int 1) (.cons (.int 1) (.cons (.int 3) .nil))))) .nil)) .nil)))) (.cons (.tup (.cons (.int 3) (.cons (.tup .nil) (.cons (.tup (.cons (.tup (.cons (.int 0) (.cons (.int 1) (.cons (.int 1) .nil)))) .nil)) .nil)))) .nil)))))))
 (.cons (.asg (.v 8) (.op2 .add (.var 8) (.call k__law_flagged (.cons (.var 1) .nil))))
 (.cons (.ret (.idx (.var 8) (.call k__law_take (.cons (.var 0) (.cons (.bi .len (.cons (.var 8) .nil)) .nil)))))
 .nil))))))))))))))⟩
abbrev b__law_are_refused_1 : Sts := (.cons (.try1 (.cons (.exp (.callv 1 (.cons (.var 0) .nil)))
 (.cons (.ret (.bl false))
 .nil)) c_NoNet (some 2) (.cons (.ife (.or (.not (.tru (.isx 2 c_PlanError))) (.not (.tru (.isx 2 c_ValueError)))) (.cons (.ret (.bl false))
 .nil) .nil)
 .nil))
 .nil)
def df__law_are_refused : Df := ⟨1, 3, (.cons (.for_ (.v 1) (.val (.tup (.cons (.fnv k_ends_of) (.cons (.fnv k_ours_of) (.cons (.fnv k_all_bounds) (.cons (.fnv k_horizon) .nil)))))) b__law_are_refused_1)
 (.cons (.try1 (.cons (.exp (.call k_last_of (.cons (.var 0) (.cons (.int 1) .nil))))
 .nil) c_NoNet (some 2) (.cons (.ret (.op1 .not (.isx 2 c_NoEnd)))
 .nil))
 (.cons (.ret (.bl false))
 .nil)))⟩
abbrev b_law_v3_1 : Sts := (.cons (.asg (.v 8) (.call k__law_bad (.cons (.var 1) (.cons (.var 2) .nil))))
 (.cons (.ife (.or (.val (.op2 .nisB (.call k_is_net (.cons (.var 8) .nil)) (.bl false))) (.not (.tru (.call k__law_are_refused (.cons (.var 8) .nil))))) (.cons (.ret (.bl false))
 .nil) .nil)
 .nil))
abbrev b_law_v3_2 : Sts := (.cons (.ife (.val (.op2 .nisB (.call k_is_net (.cons (.var 6) .nil)) (.bl true))) (.cons (.ret (.bl false))
 .nil) .nil)
 .nil)
abbrev e_law_v3_3 : Ex := (.tup (.cons (.int 0) (.cons (.int 1) (.cons (.int 1000) (.cons (.var 4) .nil)))))
abbrev s_law_v3_3 : Tes := .nil
def df_law_v3 : Df := ⟨1, 9, (.cons (.asg (.v 1) (.call k__law_draws_v3 (.cons (.var 0) (.cons (.int 160) .nil))))
 (.cons (.asg (.v 2) (.call k__law_net (.cons (.var 1) (.cons (.int 2) (.cons (.int 6) (.cons (.int 3) .nil))))))
 (.cons (.asg (.v 3) (.bi .tuple (.cons (.comp [4] e_law_v3_3 (.v 4) (.rng2 (.int 1) (.int 6)) s_law_v3_3) .nil)))
 (.cons (.asg (.v 5) (.call k__law_pairs (.cons (.int 9) (.cons (.int 100000) .nil))))
 (.cons (.for_ (.v 6) (.val (.tup (.cons (.var 2) (.cons (.tup (.cons (.int 1) (.cons (.tup .nil) (.cons (.tup .nil) .nil)))) (.cons (.tup (.cons (.int 16) (.cons (.tup .nil) (.cons (.tup .nil) .nil)))) (.cons (.tup (.cons (.int 7) (.cons (.tup .nil) (.cons (.var 3) .nil)))) (.cons (.tup (.cons (.int 9) (.cons (.bi .tuple (.cons (.sl (.var 5) .no (.so (.int 60))) .nil)) (.cons (.tup .nil) .nil)))) (.cons (.tup (.cons (.int 2) (.cons (.tup (.cons (.tup (.cons (.int 1) (.cons (.int 0) (.cons (.op1 .neg (.int 100000)) .nil)))) .nil)) (.cons (.tup .nil) .nil)))) .nil)))))))) b_law_v3_2)
 (.cons (.for_ (.v 7) (.rng1 (.int 4)) b_law_v3_1)
 (.cons (.ret (.bl true))
 .nil)))))))⟩
def GV0 : List (Nat × GV) := [(1, .int 1000), (2, .int 5), (3, .int 100000), (4, .int 60), (5, .int 16)]
def FS0 : List (Nat × Df) := [(1, df_is_int), (2, df_is_within), (3, df_is_sized), (4, df_is_rising), (5, df_is_last), (6, df_are_rooted), (7, df_are_lasts), (8, df_is_bound), (9, df_are_bounds), (10, df_is_net), (11, df_check_net), (12, df_raw_ends), (13, df_raw_ours), (14, df_raw_last_of), (15, df_ends_of), (16, df_ours_of), (17, df_last_of), (18, df_raw_all_bounds), (19, df_all_bounds), (20, df_raw_horizon), (21, df_horizon), (22, df__law_draws), (23, df__law_take), (24, df__law_order), (25, df__law_lasts), (26, df__law_bounds), (27, df__law_couple), (28, df__law_net), (29, df__law_all), (30, df__law_last), (31, df_law), (32, df_raw_are_times), (33, df_are_times), (34, df_check_times), (35, df_lengths_of), (36, df_raw_broken), (37, df_broken), (38, df_is_kept), (39, df__law_draws_v2), (40, df__law_broken), (41, df__law_flagged), (42, df__law_word), (43, df__law_near), (44, df_law_v2), (45, df__law_draws_v3), (46, df__law_pairs), (47, df__law_bad), (48, df__law_are_refused), (49, df_law_v3)]
def FS (k : Nat) : Option Df := FS0.lookup k
theorem fs_is_int : FS k_is_int = some df_is_int := rfl
theorem fs_is_within : FS k_is_within = some df_is_within := rfl
theorem fs_is_sized : FS k_is_sized = some df_is_sized := rfl
theorem fs_is_rising : FS k_is_rising = some df_is_rising := rfl
theorem fs_is_last : FS k_is_last = some df_is_last := rfl
theorem fs_are_rooted : FS k_are_rooted = some df_are_rooted := rfl
theorem fs_are_lasts : FS k_are_lasts = some df_are_lasts := rfl
theorem fs_is_bound : FS k_is_bound = some df_is_bound := rfl
theorem fs_are_bounds : FS k_are_bounds = some df_are_bounds := rfl
theorem fs_is_net : FS k_is_net = some df_is_net := rfl
theorem fs_check_net : FS k_check_net = some df_check_net := rfl
theorem fs_raw_ends : FS k_raw_ends = some df_raw_ends := rfl
theorem fs_raw_ours : FS k_raw_ours = some df_raw_ours := rfl
theorem fs_raw_last_of : FS k_raw_last_of = some df_raw_last_of := rfl
theorem fs_ends_of : FS k_ends_of = some df_ends_of := rfl
theorem fs_ours_of : FS k_ours_of = some df_ours_of := rfl
theorem fs_last_of : FS k_last_of = some df_last_of := rfl
theorem fs_raw_all_bounds : FS k_raw_all_bounds = some df_raw_all_bounds := rfl
theorem fs_all_bounds : FS k_all_bounds = some df_all_bounds := rfl
theorem fs_raw_horizon : FS k_raw_horizon = some df_raw_horizon := rfl
theorem fs_horizon : FS k_horizon = some df_horizon := rfl
theorem fs__law_draws : FS k__law_draws = some df__law_draws := rfl
theorem fs__law_take : FS k__law_take = some df__law_take := rfl
theorem fs__law_order : FS k__law_order = some df__law_order := rfl
theorem fs__law_lasts : FS k__law_lasts = some df__law_lasts := rfl
theorem fs__law_bounds : FS k__law_bounds = some df__law_bounds := rfl
theorem fs__law_couple : FS k__law_couple = some df__law_couple := rfl
theorem fs__law_net : FS k__law_net = some df__law_net := rfl
theorem fs__law_all : FS k__law_all = some df__law_all := rfl
theorem fs__law_last : FS k__law_last = some df__law_last := rfl
theorem fs_law : FS k_law = some df_law := rfl
theorem fs_raw_are_times : FS k_raw_are_times = some df_raw_are_times := rfl
theorem fs_are_times : FS k_are_times = some df_are_times := rfl
theorem fs_check_times : FS k_check_times = some df_check_times := rfl
theorem fs_lengths_of : FS k_lengths_of = some df_lengths_of := rfl
theorem fs_raw_broken : FS k_raw_broken = some df_raw_broken := rfl
theorem fs_broken : FS k_broken = some df_broken := rfl
theorem fs_is_kept : FS k_is_kept = some df_is_kept := rfl
theorem fs__law_draws_v2 : FS k__law_draws_v2 = some df__law_draws_v2 := rfl
theorem fs__law_broken : FS k__law_broken = some df__law_broken := rfl
theorem fs__law_flagged : FS k__law_flagged = some df__law_flagged := rfl
theorem fs__law_word : FS k__law_word = some df__law_word := rfl
theorem fs__law_near : FS k__law_near = some df__law_near := rfl
theorem fs_law_v2 : FS k_law_v2 = some df_law_v2 := rfl
theorem fs__law_draws_v3 : FS k__law_draws_v3 = some df__law_draws_v3 := rfl
theorem fs__law_pairs : FS k__law_pairs = some df__law_pairs := rfl
theorem fs__law_bad : FS k__law_bad = some df__law_bad := rfl
theorem fs__law_are_refused : FS k__law_are_refused = some df__law_are_refused := rfl
theorem fs_law_v3 : FS k_law_v3 = some df_law_v3 := rfl
def gc0 (n : Nat) : D := match GV0.lookup n with
  | some v => v.d
  | none => .non
theorem gc_MOST_LENGTH : gc0 g_MOST_LENGTH = .int 1000 := rfl
theorem gc_MOST_LASTS : gc0 g_MOST_LASTS = .int 5 := rfl
theorem gc_MOST_WORTH : gc0 g_MOST_WORTH = .int 100000 := rfl
theorem gc_MOST_BOUNDS : gc0 g_MOST_BOUNDS = .int 60 := rfl
theorem gc_MOST_EVENTS : gc0 g_MOST_EVENTS = .int 16 := rfl
def CU0 : List (Nat × List Nat) := [(1, [1, 900, 901]), (2, [2, 1, 900, 901]), (3, [3, 1, 900, 901]), (4, [4, 1, 900, 901])]
def sub0 (j k : Nat) : Bool := match CU0.lookup j with
  | some l => l.contains k
  | none => false
end G
set_option maxHeartbeats 4000000
/-! E0: the own evaluator by equations. -/
namespace G
open L2
/-- turns of a while -/
@[irreducible] def WH : Nat := 1000000
theorem wh_ge {n : Nat} (h : n ≤ 1000000) : ∃ m, WH = n + m := ⟨1000000 - n, by unfold WH; omega⟩
abbrev Φ (n : Nat) : Nat → List En → FR := phi FS gc0 sub0 WH n
abbrev GG (n : Nat) : Gx := ⟨Φ n, gc0, sub0, WH⟩
theorem phi_run {n k : Nat} {f : Df} {as : List En} (h : FS k = some f) : Φ (n + 1) k as = runD (GG n) f as := by
  show (match FS k with | some f => runD _ f as | none => .no) = _
  rw [h]
section
variable {g : Gx} {ρ : List En}
@[simp] theorem ev_non : ev g .non ρ = .ok (.da false .non) ρ := rfl
@[simp] theorem ev_bl {b : Bool} : ev g (.bl b) ρ = .ok (.da false (.bl b)) ρ := rfl
@[simp] theorem ev_int {i : Int} : ev g (.int i) ρ = .ok (.da false (.int i)) ρ := rfl
@[simp] theorem ev_str {x : PySem.Str} : ev g (.str x) ρ = .ok (.da false (.str x)) ρ := rfl
@[simp] theorem ev_var {i : Nat} : ev g (.var i) ρ = varS i ρ := rfl
@[simp] theorem ev_gc {i : Nat} : ev g (.gc i) ρ = .ok (.da false (g.gc i)) ρ := rfl
@[simp] theorem ev_fnv {i : Nat} : ev g (.fnv i) ρ = .ok (.da false (.fn i)) ρ := rfl
@[simp] theorem ev_tup {es : Exs} : ev g (.tup es) ρ = (evs g es ρ).bd fun vs ρ1 => (escs vs ρ1).bd fun ds ρ2 => if szOk ds.length then .ok (.da false (.tup ds)) ρ2 else .no := rfl
@[simp] theorem ev_lst {es : Exs} : ev g (.lst es) ρ = (evs g es ρ).bd fun vs ρ1 => (escs vs ρ1).bd fun ds ρ2 => if szOk ds.length then .ok (.da true (.lst ds)) ρ2 else .no := rfl
@[simp] theorem ev_dnew {t : Bool} : ev g (.dnew t) ρ = .ok (.da true (.dct t [] [])) ρ := rfl
@[simp] theorem ev_op2 {o : Op2} {a b : Ex} : ev g (.op2 o a b) ρ = (ev g a ρ).bd fun x ρ1 => (ev g b ρ1).bd fun y ρ2 => lift2 (prim2 o (rd x ρ2) (rd y ρ2)) ρ2 := rfl
@[simp] theorem ev_op1 {o : Op1} {a : Ex} : ev g (.op1 o a) ρ = (ev g a ρ).bd fun x ρ1 => lift1 (prim1 o (rd x ρ1)) ρ1 := rfl
@[simp] theorem ev_and {a b : Ex} : ev g (.and a b) ρ = (ev g a ρ).bd fun x ρ1 => (toB (rd x ρ1) ρ1).bd fun c ρ2 => if c then ev g b ρ2 else .ok (.da false (.bl false)) ρ2 := rfl
@[simp] theorem ev_or {a b : Ex} : ev g (.or a b) ρ = (ev g a ρ).bd fun x ρ1 => (toB (rd x ρ1) ρ1).bd fun c ρ2 => if c then .ok (.da false (.bl true)) ρ2 else ev g b ρ2 := rfl
@[simp] theorem ev_chain {o p : Op2} {a b c : Ex} : ev g (.chain o p a b c) ρ = (ev g a ρ).bd fun x ρ1 => (ev g b ρ1).bd fun y ρ2 => (lift2 (prim2 o (rd x ρ2) (rd y ρ2)) ρ2).bd fun t ρ3 => (toB (rd t ρ3) ρ3).bd fun k ρ4 =>
      if k then (ev g c ρ4).bd fun z ρ5 => lift2 (prim2 p (rd y ρ5) (rd z ρ5)) ρ5 else .ok (.da false (.bl false)) ρ4 := rfl
@[simp] theorem ev_ife {t : Te} {a b : Ex} : ev g (.ife t a b) ρ = (et g t ρ).bd fun c ρ1 => if c then ev g a ρ1 else ev g b ρ1 := rfl
@[simp] theorem ev_idx {a b : Ex} : ev g (.idx a b) ρ = (ev g a ρ).bd fun x ρ1 => (ev g b ρ1).bd fun y ρ2 => lift1 (idxD (rd x ρ2) (rd y ρ2)) ρ2 := rfl
@[simp] theorem ev_sl {a : Ex} {lo hi : Ox} : ev g (.sl a lo hi) ρ = (ev g a ρ).bd fun x ρ1 => (eo g lo ρ1).bd fun l ρ2 => (eo g hi ρ2).bd fun h ρ3 => lift2 (slD (rd x ρ3) l h) ρ3 := rfl
@[simp] theorem ev_rev {a : Ex} : ev g (.rev a) ρ = (ev g a ρ).bd fun x ρ1 => lift2 (revD (rd x ρ1)) ρ1 := rfl
@[simp] theorem ev_call {f : Nat} {es : Exs} : ev g (.call f es) ρ = (evs g es ρ).bd fun vs ρ1 => doCall (g.φ f) vs ρ1 := rfl
@[simp] theorem ev_callv {i : Nat} {es : Exs} : ev g (.callv i es) ρ = (fnS i ρ).bd fun f ρ0 => (evs g es ρ0).bd fun vs ρ1 => doCall (g.φ f) vs ρ1 := rfl
@[simp] theorem ev_bi {b : Bi} {es : Exs} : ev g (.bi b es) ρ = (evs g es ρ).bd fun vs ρ1 => lift2 (biD b (vs.map fun v => rd v ρ1)) ρ1 := rfl
@[simp] theorem ev_lrg1 {a : Ex} : ev g (.lrg1 a) ρ = (ev g a ρ).bd fun x ρ1 => lift2 (biD .lrng1 [rd x ρ1]) ρ1 := rfl
@[simp] theorem ev_lrg2 {a b : Ex} : ev g (.lrg2 a b) ρ = (ev g a ρ).bd fun x ρ1 => (ev g b ρ1).bd fun y ρ2 => lift2 (biD .lrng2 [rd x ρ2, rd y ρ2]) ρ2 := rfl
@[simp] theorem ev_isi {t : Ty} {a : Ex} : ev g (.isi t a) ρ = (ev g a ρ).bd fun x ρ1 => lift1 (isiO t (rd x ρ1)) ρ1 := rfl
@[simp] theorem ev_isx {i c : Nat} : ev g (.isx i c) ρ = isxS g.sub i c ρ := rfl
@[simp] theorem ev_mth {m : Mt} {a : Ex} {es : Exs} : ev g (.mth m a es) ρ = (ev g a ρ).bd fun x ρ1 => if mtK m (rd x ρ1) then (evs g es ρ1).bd fun vs ρ2 => lift2 (mtD m (rd x ρ2) (vs.map fun v => rd v ρ2)) ρ2 else .no := rfl
@[simp] theorem ev_pop {i : Nat} : ev g (.pop i) ρ = popS i ρ := rfl
@[simp] theorem ev_popAt {i : Nat} {a : Ex} : ev g (.popAt i a) ρ = if isL i ρ then (ev g a ρ).bd fun x ρ1 => (toI (rd x ρ1) ρ1).bd fun k ρ2 => if small63 k then popI i k ρ2 else .no else .no := rfl
/-- a comprehension's turn -/
def cturn (g : Gx) (vs : List Nat) (elt : Ex) (tg : Tg) (ts : Tes) (x : D) (ρ2 : List En) : Rs (Option D) :=
  (bind g tg x ρ2).bd fun _ ρ3 => (ets g ts ρ3).bd fun c ρ4 => if c then (ev g elt ρ4).bd fun y ρ5 => (esc y ρ5).bd fun d ρ6 => .ok (some d.2) (wp vs ρ6) else .ok none (wp vs ρ4)
@[simp] theorem ev_comp {vs : List Nat} {elt : Ex} {tg : Tg} {it : It} {ts : Tes} : ev g (.comp vs elt tg it ts) ρ = (ei g it ρ).bd fun xs ρ1 => (nox (clp (cturn g vs elt tg ts) xs (wp vs ρ1))).bd fun ys ρ7 =>
      if szOk ys.length then .ok (.da true (.lst ys)) (bk vs ρ1 ρ7) else .no := rfl
def dturn (g : Gx) (vs : List Nat) (k v : Ex) (tg : Tg) (ts : Tes) (x : D) (ρ2 : List En) : Rs (Option (D × D)) :=
  (bind g tg x ρ2).bd fun _ ρ3 => (ets g ts ρ3).bd fun c ρ4 => if c then (ev g k ρ4).bd fun y ρ5 => (ev g v ρ5).bd fun z ρ6 => (esc y ρ6).bd fun d ρ7 => (esc z ρ7).bd fun e ρ8 => .ok (some (d.2, e.2)) (wp vs ρ8) else .ok none (wp vs ρ4)
@[simp] theorem ev_dcomp {vs : List Nat} {k v : Ex} {tg : Tg} {it : It} {ts : Tes} : ev g (.dcomp vs k v tg it ts) ρ = (ei g it ρ).bd fun xs ρ1 => (nox (clp2 (dturn g vs k v tg ts) xs (wp vs ρ1))).bd fun ys ρ7 =>
      if szOk ys.length && ys.all (fun p => isKey p.1) then .ok (.da true (.dct false (putAll [] [] ys).1 (putAll [] [] ys).2)) (bk vs ρ1 ρ7) else .no := rfl
@[simp] theorem evs_nil : evs g .nil ρ = .ok [] ρ := rfl
@[simp] theorem evs_cons {e : Ex} {es : Exs} : evs g (.cons e es) ρ = (ev g e ρ).bd fun v ρ1 => (evs g es ρ1).bd fun vs ρ2 => .ok (v :: vs) ρ2 := rfl
@[simp] theorem et_val {e : Ex} : et g (.val e) ρ = (ev g e ρ).bd fun x ρ1 => toB (rd x ρ1) ρ1 := rfl
def truS (d : D) (ρ : List En) : Rs Bool := match truD d with
  | some b => .ok b ρ
  | none => .no
@[simp] theorem truS_bl {b : Bool} : truS (.bl b) ρ = .ok b ρ := rfl
@[simp] theorem truS_non : truS .non ρ = .ok false ρ := rfl
@[simp] theorem truS_int {i : Int} : truS (.int i) ρ = .ok (i != 0) ρ := rfl
@[simp] theorem truS_tup {xs : List D} : truS (.tup xs) ρ = .ok (!xs.isEmpty) ρ := rfl
@[simp] theorem truS_lst {xs : List D} : truS (.lst xs) ρ = .ok (!xs.isEmpty) ρ := rfl
@[simp] theorem et_tru {e : Ex} : et g (.tru e) ρ = (ev g e ρ).bd fun x ρ1 => truS (rd x ρ1) ρ1 := rfl
@[simp] theorem et_not {t : Te} : et g (.not t) ρ = (et g t ρ).bd fun b ρ1 => .ok (!b) ρ1 := rfl
@[simp] theorem et_and {a b : Te} : et g (.and a b) ρ = (et g a ρ).bd fun c ρ1 => if c then et g b ρ1 else .ok false ρ1 := rfl
@[simp] theorem et_or {a b : Te} : et g (.or a b) ρ = (et g a ρ).bd fun c ρ1 => if c then .ok true ρ1 else et g b ρ1 := rfl
@[simp] theorem ets_nil : ets g .nil ρ = .ok true ρ := rfl
@[simp] theorem ets_one {t : Te} : ets g (.one t) ρ = et g t ρ := rfl
@[simp] theorem eo_no : eo g .no ρ = .ok none ρ := rfl
@[simp] theorem eo_so {e : Ex} : eo g (.so e) ρ = (ev g e ρ).bd fun x ρ1 => (toI (rd x ρ1) ρ1).bd fun i ρ2 => .ok (some i) ρ2 := rfl
@[simp] theorem toL_lst {xs : List D} : toL (.lst xs) ρ = .ok xs ρ := rfl
@[simp] theorem toL_tup {xs : List D} : toL (.tup xs) ρ = .ok xs ρ := rfl
@[simp] theorem ei_val {e : Ex} : ei g (.val e) ρ = (ev g e ρ).bd fun x ρ1 => (esc x ρ1).bd fun d ρ2 => toL d.2 ρ2 := rfl
/-- range(n, m), walked -/
def rngS (n m : Int) (ρ : List En) : Rs (List D) := if rngOk n m then .ok (rngL n m) ρ else .no
@[simp] theorem rngS_ok {n m : Int} (h : rngOk n m = true) : rngS n m ρ = .ok (rngL n m) ρ := by
  unfold rngS
  rw [if_pos h]
@[simp] theorem ei_rng1 {a : Ex} : ei g (.rng1 a) ρ = (ev g a ρ).bd fun x ρ1 => (toI (rd x ρ1) ρ1).bd fun n ρ2 => rngS 0 n ρ2 := rfl
@[simp] theorem ei_rng2 {a b : Ex} : ei g (.rng2 a b) ρ = (ev g a ρ).bd fun x ρ1 => (ev g b ρ1).bd fun y ρ2 => (toI (rd x ρ2) ρ2).bd fun n ρ3 => (toI (rd y ρ3) ρ3).bd fun m ρ4 => rngS n m ρ4 := rfl
def zipS (c d : D) (ρ : List En) : Rs (List D) := match zipK c d with
  | some xs => .ok xs ρ
  | none => .no
@[simp] theorem zipS_tup {xs ys : List D} : zipS (.tup xs) (.tup ys) ρ = .ok (zipD xs ys) ρ := rfl
@[simp] theorem zipS_lst {xs ys : List D} : zipS (.lst xs) (.lst ys) ρ = .ok (zipD xs ys) ρ := rfl
@[simp] theorem ei_zip {a b : Ex} : ei g (.zip a b) ρ = (ev g a ρ).bd fun x ρ1 => (ev g b ρ1).bd fun y ρ2 => (esc x ρ2).bd fun c ρ3 => (esc y ρ3).bd fun d ρ4 => zipS c.2 d.2 ρ4 := rfl
def enmS (d : D) (ρ : List En) : Rs (List D) := match d with
    | .lst xs => .ok (enumD xs 0) ρ
    | .tup xs => .ok (enumD xs 0) ρ
    | _ => .no
@[simp] theorem enmS_lst {xs : List D} : enmS (.lst xs) ρ = .ok (enumD xs 0) ρ := rfl
@[simp] theorem enmS_tup {xs : List D} : enmS (.tup xs) ρ = .ok (enumD xs 0) ρ := rfl
@[simp] theorem ei_enm {a : Ex} : ei g (.enm a) ρ = (ev g a ρ).bd fun x ρ1 => (esc x ρ1).bd fun d ρ2 => enmS d.2 ρ2 := rfl
@[simp] theorem ei_keys {i : Nat} : ei g (.keys i) ρ = keysS i ρ := rfl
@[simp] theorem bind_v {i : Nat} {d : D} : bind g (.v i) d ρ = stS i false d ρ := rfl
@[simp] theorem bind_t {ts : Tgs} {xs : List D} : bind g (.t ts) (.tup xs) ρ = if xs.length = tgn ts then binds g ts xs ρ else .no := rfl
@[simp] theorem bind_ix {i : Nat} {e : Ex} {d : D} : bind g (.ix i e) d ρ = if isO i ρ then (ev g e ρ).bd fun k ρ1 => (esc k ρ1).bd fun k ρ2 => setI i k.2 d ρ2 else .no := rfl
@[simp] theorem binds_nil : binds g .nil [] ρ = .ok () ρ := rfl
@[simp] theorem binds_cons {t : Tg} {ts : Tgs} {x : D} {xs : List D} : binds g (.cons t ts) (x :: xs) ρ = (bind g t x ρ).bd fun _ ρ1 => binds g ts xs ρ1 := rfl
@[simp] theorem tgn_nil : tgn .nil = 0 := rfl
@[simp] theorem tgn_cons {t : Tg} {ts : Tgs} : tgn (.cons t ts) = tgn ts + 1 := rfl
@[simp] theorem es_asgv {i : Nat} {e : Ex} : es g (.asg (.v i) e) ρ = (ev g e ρ).bd fun v ρ1 => (esc v ρ1).bd fun d ρ2 => (stS i d.1 d.2 ρ2).bd fun _ ρ3 => .ok .nx ρ3 := rfl
@[simp] theorem es_asgt {ts : Tgs} {e : Ex} : es g (.asg (.t ts) e) ρ = (ev g e ρ).bd fun v ρ1 => (esc v ρ1).bd fun d ρ2 => (bind g (.t ts) d.2 ρ2).bd fun _ ρ3 => .ok .nx ρ3 := rfl
@[simp] theorem es_asgi {i : Nat} {k e : Ex} : es g (.asg (.ix i k) e) ρ = (ev g e ρ).bd fun v ρ1 => (esc v ρ1).bd fun d ρ2 => (bind g (.ix i k) d.2 ρ2).bd fun _ ρ3 => .ok .nx ρ3 := rfl
@[simp] theorem es_par {is : List Nat} {xs : Exs} : es g (.par is xs) ρ = (evs g xs ρ).bd fun vs ρ1 => (escO vs ρ1).bd fun ds ρ2 => (stAll is ds ρ2).bd fun _ ρ3 => .ok .nx ρ3 := rfl
@[simp] theorem es_app {i : Nat} {e : Ex} : es g (.app i e) ρ = if isL i ρ then (ev g e ρ).bd fun v ρ1 => (esc v ρ1).bd fun d ρ2 => (appS i [d.2] ρ2).bd fun _ ρ3 => .ok .nx ρ3 else .no := rfl
def extS (i : Nat) (v : Vl) (ρ1 : List En) : Rs Fl := match v with
    | .da true (.lst ys) => (appS i ys ρ1).bd fun _ ρ3 => .ok .nx ρ3
    | _ => .no
@[simp] theorem extS_lst {i : Nat} {ys : List D} : extS i (.da true (.lst ys)) ρ = (appS i ys ρ).bd fun _ ρ3 => .ok .nx ρ3 := rfl
@[simp] theorem es_ext {i : Nat} {e : Ex} : es g (.ext i e) ρ = if isL i ρ then (ev g e ρ).bd fun v ρ1 => extS i v ρ1 else .no := rfl
@[simp] theorem es_exp {e : Ex} : es g (.exp e) ρ = (ev g e ρ).bd fun _ ρ1 => .ok .nx ρ1 := rfl
@[simp] theorem es_ret {e : Ex} : es g (.ret e) ρ = (ev g e ρ).bd fun v ρ1 => retV v ρ1 := rfl
@[simp] theorem es_retN : es g .retN ρ = .ok (.rt false .non) ρ := rfl
@[simp] theorem es_ife {t : Te} {a b : Sts} : es g (.ife t a b) ρ = (et g t ρ).bd fun c ρ1 => if c then ess g a ρ1 else ess g b ρ1 := rfl
/-- a for's turn -/
def fturn (g : Gx) (tg : Tg) (b : Sts) (x : D) (ρ2 : List En) : Rs Fl := (bind g tg x ρ2).bd fun _ ρ3 => ess g b ρ3
@[simp] theorem es_for {tg : Tg} {it : It} {b : Sts} : es g (.for_ tg it b) ρ = (ei g it ρ).bd fun xs ρ1 => flp (fturn g tg b) xs ρ1 := rfl
@[simp] theorem es_whl {t : Te} {b : Sts} : es g (.whl t b) ρ = wlp (et g t) (ess g b) g.wh ρ := rfl
@[simp] theorem es_rai {c : Nat} {xs : Exs} : es g (.rai c xs) ρ = (evs g xs ρ).bd fun vs ρ1 => (escs vs ρ1).bd fun ds ρ2 => .ex ⟨c, ds⟩ ρ2 := rfl
@[simp] theorem es_pas : es g .pas ρ = .ok .nx ρ := rfl
@[simp] theorem es_brk : es g .brk ρ = .ok .bk ρ := rfl
@[simp] theorem es_cnt : es g .cnt ρ = .ok .ct ρ := rfl
/-- behind a statement -/
def goOn (g : Gx) (ss : Sts) (r : Fl) (ρ1 : List En) : Rs Fl := match r with
    | .nx => ess g ss ρ1
    | .rt o d => .ok (.rt o d) ρ1
    | .bk => .ok .bk ρ1
    | .ct => .ok .ct ρ1
@[simp] theorem goOn_nx {ss : Sts} : goOn g ss .nx ρ = ess g ss ρ := rfl
@[simp] theorem goOn_rt {ss : Sts} {o : Bool} {d : D} : goOn g ss (.rt o d) ρ = .ok (.rt o d) ρ := rfl
@[simp] theorem goOn_bk {ss : Sts} : goOn g ss .bk ρ = .ok .bk ρ := rfl
@[simp] theorem goOn_ct {ss : Sts} : goOn g ss .ct ρ = .ok .ct ρ := rfl
@[simp] theorem ess_nil : ess g .nil ρ = .ok .nx ρ := rfl
@[simp] theorem ess_cons {s : St} {ss : Sts} : ess g (.cons s ss) ρ = (es g s ρ).bd fun r ρ1 => goOn g ss r ρ1 := rfl
@[simp] theorem Rs.bd_if {α β : Type} {c : Prop} [Decidable c] {a b : Rs α} {f : α → List En → Rs β} : (if c then a else b).bd f = if c then a.bd f else b.bd f := by split <;> rfl
end
/-! ### slots -/
section
variable {e : En} {ρ : List En} {d : D}
def varE (i : Nat) (ρ : List En) : En → Rs Vl
  | .da .s d => .ok (.da false d) ρ
  | .da .o _ => .ok (.vw i) ρ
  | .da .l _ => .ok (.vw i) ρ
  | _ => .no
@[simp] theorem varE_s {i : Nat} : varE i ρ (.da .s d) = .ok (.da false d) ρ := rfl
@[simp] theorem varE_o {i : Nat} : varE i ρ (.da .o d) = .ok (.vw i) ρ := rfl
@[simp] theorem varE_l {i : Nat} : varE i ρ (.da .l d) = .ok (.vw i) ρ := rfl
@[simp] theorem varS_e {i : Nat} : varS i ρ = varE i ρ (gt ρ i) := by
  unfold varS
  cases gt ρ i with
  | un => rfl
  | xc x => rfl
  | da w d => cases w <;> rfl
def rdE : En → D
  | .da _ d => d
  | .un => .non
  | .xc _ => .non
@[simp] theorem rdE_da {w : Ow} : rdE (.da w d) = d := rfl
@[simp] theorem rd_vw {i : Nat} : rd (.vw i) ρ = rdE (gt ρ i) := by
  show (match gt ρ i with
    | .da _ d => d
    | .un => D.non
    | .xc _ => D.non) = _
  cases gt ρ i <;> rfl
def escE (i : Nat) (ρ : List En) : En → Rs (Bool × D)
  | .da .o d => .ok (false, d) (ρ.set i (.da .s d))
  | .da .s d => .ok (false, d) ρ
  | _ => .no
@[simp] theorem escE_o {i : Nat} : escE i ρ (.da .o d) = .ok (false, d) (ρ.set i (.da .s d)) := rfl
@[simp] theorem escE_s {i : Nat} : escE i ρ (.da .s d) = .ok (false, d) ρ := rfl
@[simp] theorem esc_vw {i : Nat} : esc (.vw i) ρ = escE i ρ (gt ρ i) := by
  show (match gt ρ i with
    | .da .o d => Rs.ok (false, d) (ρ.set i (.da .s d))
    | .da .s d => .ok (false, d) ρ
    | _ => .no) = _
  cases gt ρ i with
  | un => rfl
  | xc x => rfl
  | da w d => cases w <;> rfl
@[simp] theorem escs_nil : escs [] ρ = .ok [] ρ := rfl
@[simp] theorem escs_cons {v : Vl} {vs : List Vl} : escs (v :: vs) ρ = (esc v ρ).bd fun d ρ1 => (escs vs ρ1).bd fun ds ρ2 => .ok (d.2 :: ds) ρ2 := rfl
@[simp] theorem escO_nil : escO [] ρ = .ok [] ρ := rfl
@[simp] theorem escO_cons {v : Vl} {vs : List Vl} : escO (v :: vs) ρ = (esc v ρ).bd fun d ρ1 => (escO vs ρ1).bd fun ds ρ2 => .ok (d :: ds) ρ2 := rfl
def retE (i : Nat) (ρ : List En) : En → Rs Fl
  | .da .o d => .ok (.rt true d) (ρ.set i .un)
  | .da .s d => .ok (.rt false d) ρ
  | _ => .no
@[simp] theorem retE_o {i : Nat} : retE i ρ (.da .o d) = .ok (.rt true d) (ρ.set i .un) := rfl
@[simp] theorem retE_s {i : Nat} : retE i ρ (.da .s d) = .ok (.rt false d) ρ := rfl
@[simp] theorem retV_vw {i : Nat} : retV (.vw i) ρ = retE i ρ (gt ρ i) := by
  show (match gt ρ i with
    | .da .o d => Rs.ok (Fl.rt true d) (ρ.set i .un)
    | .da .s d => .ok (Fl.rt false d) ρ
    | _ => .no) = _
  cases gt ρ i with
  | un => rfl
  | xc x => rfl
  | da w d => cases w <;> rfl
@[simp] theorem ow_t : ow true = .o := rfl
@[simp] theorem ow_f : ow false = .s := rfl
def stE (i : Nat) (o : Bool) (d : D) (ρ : List En) : En → Rs Unit
  | .da .l _ => .no
  | _ => if i < ρ.length then .ok () (ρ.set i (.da (ow o) d)) else .no
@[simp] theorem stE_un {i : Nat} {o : Bool} : stE i o d ρ .un = if i < ρ.length then .ok () (ρ.set i (.da (ow o) d)) else .no := rfl
@[simp] theorem stE_s {i : Nat} {o : Bool} {d' : D} : stE i o d ρ (.da .s d') = if i < ρ.length then .ok () (ρ.set i (.da (ow o) d)) else .no := rfl
@[simp] theorem stE_o {i : Nat} {o : Bool} {d' : D} : stE i o d ρ (.da .o d') = if i < ρ.length then .ok () (ρ.set i (.da (ow o) d)) else .no := rfl
@[simp] theorem stS_e {i : Nat} {o : Bool} : stS i o d ρ = stE i o d ρ (gt ρ i) := by
  unfold stS
  cases gt ρ i with
  | un => rfl
  | xc x => rfl
  | da w d => cases w <;> rfl
@[simp] theorem stAll_nil : stAll [] [] ρ = .ok () ρ := rfl
@[simp] theorem stAll_cons {i : Nat} {is : List Nat} {x : Bool × D} {xs : List (Bool × D)} : stAll (i :: is) (x :: xs) ρ = (stS i x.1 x.2 ρ).bd fun _ ρ1 => stAll is xs ρ1 := rfl
def isOE : En → Bool
  | .da .o _ => true
  | .da .l _ => true
  | _ => false
@[simp] theorem isOE_o : isOE (.da .o d) = true := rfl
@[simp] theorem isOE_l : isOE (.da .l d) = true := rfl
@[simp] theorem isO_e {i : Nat} : isO i ρ = isOE (gt ρ i) := rfl
def isLE : En → Bool
  | .da .o (.lst _) => true
  | .da .l (.lst _) => true
  | _ => false
@[simp] theorem isLE_o {xs : List D} : isLE (.da .o (.lst xs)) = true := rfl
@[simp] theorem isLE_l {xs : List D} : isLE (.da .l (.lst xs)) = true := rfl
@[simp] theorem isL_e {i : Nat} : isL i ρ = isLE (gt ρ i) := rfl
def appE (i : Nat) (ys : List D) (ρ : List En) : En → Rs Unit
  | .da .o (.lst xs) => if szOk (xs.length + ys.length) then .ok () (ρ.set i (.da .o (.lst (xs ++ ys)))) else .no
  | .da .l (.lst xs) => if szOk (xs.length + ys.length) then .ok () (ρ.set i (.da .l (.lst (xs ++ ys)))) else .no
  | _ => .no
@[simp] theorem appE_o {i : Nat} {ys xs : List D} : appE i ys ρ (.da .o (.lst xs)) = if szOk (xs.length + ys.length) then .ok () (ρ.set i (.da .o (.lst (xs ++ ys)))) else .no := rfl
@[simp] theorem appE_l {i : Nat} {ys xs : List D} : appE i ys ρ (.da .l (.lst xs)) = if szOk (xs.length + ys.length) then .ok () (ρ.set i (.da .l (.lst (xs ++ ys)))) else .no := rfl
@[simp] theorem appS_e {i : Nat} {ys : List D} : appS i ys ρ = appE i ys ρ (gt ρ i) := rfl
def popE (i : Nat) (ρ : List En) : En → Rs Vl
  | .da .o (.lst xs) => match xs.getLast? with
    | some y => .ok (.da false y) (ρ.set i (.da .o (.lst xs.dropLast)))
    | none => .no
  | .da .l (.lst xs) => match xs.getLast? with
    | some y => .ok (.da false y) (ρ.set i (.da .l (.lst xs.dropLast)))
    | none => .no
  | _ => .no
@[simp] theorem popE_l {i : Nat} {xs : List D} {y : D} : popE i ρ (.da .l (.lst (xs ++ [y]))) = .ok (.da false y) (ρ.set i (.da .l (.lst xs))) := by
  unfold popE
  simp
@[simp] theorem popE_o {i : Nat} {xs : List D} {y : D} : popE i ρ (.da .o (.lst (xs ++ [y]))) = .ok (.da false y) (ρ.set i (.da .o (.lst xs))) := by
  unfold popE
  simp
@[simp] theorem popS_e {i : Nat} : popS i ρ = popE i ρ (gt ρ i) := rfl
def isxE (sub : Nat → Nat → Bool) (c : Nat) (ρ : List En) : En → Rs Vl
  | .xc x => .ok (.da false (.bl (sub x.c c))) ρ
  | _ => .no
@[simp] theorem isxE_x {sub : Nat → Nat → Bool} {c : Nat} {x : Xc} : isxE sub c ρ (.xc x) = .ok (.da false (.bl (sub x.c c))) ρ := rfl
@[simp] theorem isxS_e {sub : Nat → Nat → Bool} {i c : Nat} : isxS sub i c ρ = isxE sub c ρ (gt ρ i) := by
  unfold isxS
  cases gt ρ i <;> rfl
@[simp] theorem set_zero' {e' : En} : (e :: ρ).set 0 e' = e' :: ρ := rfl
@[simp] theorem szOk_lit {n : Nat} (h : n ≤ 10000) : szOk n = true := by
  unfold szOk
  exact decide_eq_true (Nat.le_trans h (by rw [PySem.sizeLine_eq]; decide))
end
end G
set_option maxHeartbeats 4000000
/-! turns of loops and comprehensions (printed by gen2.py) -/
namespace G
open L2
abbrev c_is_rising_1 (g : Gx) : D → List En → Rs (Option D) := cturn g [1, 2] e_is_rising_1 (.t (.cons (.v 1) (.cons (.v 2) .nil))) s_is_rising_1
abbrev wt_are_rooted_1 (g : Gx) : List En → Rs Bool := et g t_are_rooted_1
abbrev wb_are_rooted_1 (g : Gx) : List En → Rs Fl := ess g b_are_rooted_1
abbrev f_are_rooted_2 (g : Gx) : D → List En → Rs Fl := fturn g (.v 3) b_are_rooted_2
abbrev d_are_rooted_3 (g : Gx) : D → List En → Rs (Option (D × D)) := dturn g [2] y_are_rooted_3 e_are_rooted_3 (.v 2) s_are_rooted_3
abbrev c_are_lasts_1 (g : Gx) : D → List En → Rs (Option D) := cturn g [2] e_are_lasts_1 (.v 2) s_are_lasts_1
abbrev c_are_bounds_1 (g : Gx) : D → List En → Rs (Option D) := cturn g [2, 3] e_are_bounds_1 (.t (.cons (.v 2) (.cons (.v 3) .nil))) s_are_bounds_1
abbrev c_are_bounds_2 (g : Gx) : D → List En → Rs (Option D) := cturn g [2] e_are_bounds_2 (.v 2) s_are_bounds_2
abbrev c_raw_ends_1 (g : Gx) : D → List En → Rs (Option D) := cturn g [1] e_raw_ends_1 (.v 1) s_raw_ends_1
abbrev c_raw_ours_1 (g : Gx) : D → List En → Rs (Option D) := cturn g [2] e_raw_ours_1 (.v 2) s_raw_ours_1
abbrev c_raw_last_of_1 (g : Gx) : D → List En → Rs (Option D) := cturn g [3, 4] e_raw_last_of_1 (.t (.cons (.v 3) (.cons (.v 4) .nil))) s_raw_last_of_1
abbrev c_raw_all_bounds_1 (g : Gx) : D → List En → Rs (Option D) := cturn g [6] e_raw_all_bounds_1 (.v 6) s_raw_all_bounds_1
abbrev f_raw_all_bounds_2 (g : Gx) : D → List En → Rs Fl := fturn g (.t (.cons (.v 2) (.cons (.v 3) (.cons (.v 4) (.cons (.v 5) .nil))))) b_raw_all_bounds_2
abbrev c_raw_horizon_1 (g : Gx) : D → List En → Rs (Option D) := cturn g [1] e_raw_horizon_1 (.v 1) s_raw_horizon_1
abbrev c_raw_horizon_2 (g : Gx) : D → List En → Rs (Option D) := cturn g [2] e_raw_horizon_2 (.v 2) s_raw_horizon_2
abbrev f__law_draws_1 (g : Gx) : D → List En → Rs Fl := fturn g (.v 4) b__law_draws_1
abbrev f__law_draws_2 (g : Gx) : D → List En → Rs Fl := fturn g (.v 4) b__law_draws_2
abbrev f__law_order_1 (g : Gx) : D → List En → Rs Fl := fturn g (.v 4) b__law_order_1
abbrev f__law_lasts_1 (g : Gx) : D → List En → Rs Fl := fturn g (.v 5) b__law_lasts_1
abbrev c__law_bounds_1 (g : Gx) : D → List En → Rs (Option D) := cturn g [9] e__law_bounds_1 (.v 9) s__law_bounds_1
abbrev f__law_bounds_2 (g : Gx) : D → List En → Rs Fl := fturn g (.v 6) b__law_bounds_2
abbrev c__law_net_1 (g : Gx) : D → List En → Rs (Option D) := cturn g [14] e__law_net_1 (.v 14) s__law_net_1
abbrev f__law_net_2 (g : Gx) : D → List En → Rs Fl := fturn g (.t (.cons (.v 11) (.cons (.v 12) (.cons (.v 13) .nil)))) b__law_net_2
abbrev f__law_net_3 (g : Gx) : D → List En → Rs Fl := fturn g (.v 7) b__law_net_3
abbrev c__law_net_4 (g : Gx) : D → List En → Rs (Option D) := cturn g [10] e__law_net_4 (.v 10) s__law_net_4
abbrev c__law_net_5 (g : Gx) : D → List En → Rs (Option D) := cturn g [7] e__law_net_5 (.v 7) s__law_net_5
abbrev c__law_all_1 (g : Gx) : D → List En → Rs (Option D) := cturn g [6] e__law_all_1 (.v 6) s__law_all_1
abbrev f__law_all_2 (g : Gx) : D → List En → Rs Fl := fturn g (.t (.cons (.v 2) (.cons (.v 3) (.cons (.v 4) (.cons (.v 5) .nil))))) b__law_all_2
abbrev c_law_1 (g : Gx) : D → List En → Rs (Option D) := cturn g [14, 15, 16] e_law_1 (.t (.cons (.v 14) (.cons (.v 15) (.cons (.v 16) .nil)))) s_law_1
abbrev c_law_2 (g : Gx) : D → List En → Rs (Option D) := cturn g [17, 18, 19, 20] e_law_2 (.t (.cons (.v 17) (.cons (.v 18) (.cons (.v 19) (.cons (.v 20) .nil))))) s_law_2
abbrev f_law_3 (g : Gx) : D → List En → Rs Fl := fturn g (.v 12) b_law_3
abbrev c_law_4 (g : Gx) : D → List En → Rs (Option D) := cturn g [11] e_law_4 (.v 11) s_law_4
abbrev f_law_5 (g : Gx) : D → List En → Rs Fl := fturn g (.v 9) b_law_5
abbrev c_law_6 (g : Gx) : D → List En → Rs (Option D) := cturn g [9] e_law_6 (.v 9) s_law_6
abbrev c_law_7 (g : Gx) : D → List En → Rs (Option D) := cturn g [7] e_law_7 (.v 7) s_law_7
abbrev c_raw_are_times_1 (g : Gx) : D → List En → Rs (Option D) := cturn g [2] e_raw_are_times_1 (.v 2) s_raw_are_times_1
abbrev c_lengths_of_1 (g : Gx) : D → List En → Rs (Option D) := cturn g [2, 3, 4, 5] e_lengths_of_1 (.t (.cons (.v 2) (.cons (.v 3) (.cons (.v 4) (.cons (.v 5) .nil))))) s_lengths_of_1
abbrev f_raw_broken_1 (g : Gx) : D → List En → Rs Fl := fturn g (.t (.cons (.v 3) (.cons (.t (.cons (.v 4) (.cons (.v 5) (.cons (.v 6) .nil)))) .nil))) b_raw_broken_1
abbrev f__law_draws_v2_1 (g : Gx) : D → List En → Rs Fl := fturn g (.v 4) b__law_draws_v2_1
abbrev f__law_draws_v2_2 (g : Gx) : D → List En → Rs Fl := fturn g (.v 4) b__law_draws_v2_2
abbrev c__law_broken_1 (g : Gx) : D → List En → Rs (Option D) := cturn g [3] e__law_broken_1 (.v 3) s__law_broken_1
abbrev f__law_flagged_1 (g : Gx) : D → List En → Rs Fl := fturn g (.v 3) b__law_flagged_1
abbrev f__law_flagged_2 (g : Gx) : D → List En → Rs Fl := fturn g (.v 2) b__law_flagged_2
abbrev f__law_near_1 (g : Gx) : D → List En → Rs Fl := fturn g (.v 4) b__law_near_1
abbrev f_law_v2_1 (g : Gx) : D → List En → Rs Fl := fturn g (.v 12) b_law_v2_1
abbrev c_law_v2_2 (g : Gx) : D → List En → Rs (Option D) := cturn g [7, 8, 9, 10] e_law_v2_2 (.t (.cons (.v 7) (.cons (.v 8) (.cons (.v 9) (.cons (.v 10) .nil))))) s_law_v2_2
abbrev c_law_v2_3 (g : Gx) : D → List En → Rs (Option D) := cturn g [5] e_law_v2_3 (.v 5) s_law_v2_3
abbrev c_law_v2_4 (g : Gx) : D → List En → Rs (Option D) := cturn g [5] e_law_v2_4 (.v 5) s_law_v2_4
abbrev f_law_v2_5 (g : Gx) : D → List En → Rs Fl := fturn g (.v 3) b_law_v2_5
abbrev f__law_draws_v3_1 (g : Gx) : D → List En → Rs Fl := fturn g (.v 4) b__law_draws_v3_1
abbrev f__law_draws_v3_2 (g : Gx) : D → List En → Rs Fl := fturn g (.v 4) b__law_draws_v3_2
abbrev c__law_pairs_1 (g : Gx) : D → List En → Rs (Option D) := cturn g [4] e__law_pairs_1 (.v 4) s__law_pairs_1
abbrev f__law_pairs_2 (g : Gx) : D → List En → Rs Fl := fturn g (.v 3) b__law_pairs_2
abbrev c__law_bad_1 (g : Gx) : D → List En → Rs (Option D) := cturn g [6] e__law_bad_1 (.v 6) s__law_bad_1
abbrev f__law_are_refused_1 (g : Gx) : D → List En → Rs Fl := fturn g (.v 1) b__law_are_refused_1
abbrev f_law_v3_1 (g : Gx) : D → List En → Rs Fl := fturn g (.v 7) b_law_v3_1
abbrev f_law_v3_2 (g : Gx) : D → List En → Rs Fl := fturn g (.v 6) b_law_v3_2
abbrev c_law_v3_3 (g : Gx) : D → List En → Rs (Option D) := cturn g [4] e_law_v3_3 (.v 4) s_law_v3_3
end G
set_option maxHeartbeats 4000000
/-! E1: calls, loops, comprehensions of the own evaluator. -/
namespace G
open L2
section
variable {ρ : List En} {n : Nat}
@[simp] theorem GG_φ : (GG n).φ = Φ n := rfl
@[simp] theorem GG_gc : (GG n).gc = gc0 := rfl
@[simp] theorem GG_sub : (GG n).sub = sub0 := rfl
@[simp] theorem GG_wh : (GG n).wh = WH := rfl
/-! ### calls -/
def lendE : En → Option (List En) → Option (List En)
  | .da .s d, r => r.map (.da .s d :: ·)
  | .da .o d, r => r.map (.da .l d :: ·)
  | .da .l d, r => r.map (.da .l d :: ·)
  | _, _ => none
@[simp] theorem lendE_s {d : D} {r : List En} : lendE (.da .s d) (some r) = some (.da .s d :: r) := rfl
@[simp] theorem lendE_o {d : D} {r : List En} : lendE (.da .o d) (some r) = some (.da .l d :: r) := rfl
@[simp] theorem lendE_l {d : D} {r : List En} : lendE (.da .l d) (some r) = some (.da .l d :: r) := rfl
@[simp] theorem lend_nil : lend ρ [] = some [] := rfl
@[simp] theorem lend_da {o : Bool} {d : D} {r : List Vl} : lend ρ (.da o d :: r) = (lend ρ r).map (.da (ow o) d :: ·) := rfl
@[simp] theorem lend_vw {i : Nat} {r : List Vl} : lend ρ (.vw i :: r) = lendE (gt ρ i) (lend ρ r) := by
  show (match gt ρ i with
    | .da .s d => (lend ρ r).map (En.da .s d :: ·)
    | .da _ d => (lend ρ r).map (En.da .l d :: ·)
    | _ => none) = _
  cases gt ρ i with
  | un => rfl
  | xc x => rfl
  | da w d => cases w <;> rfl
def giveE : En → En → Nat → List Vl → List En → List En → Option (List En)
  | .da .s _, _, _, r, fin, ρ => give r fin ρ
  | .da .o _, .da .l d, i, r, fin, ρ => give r fin (ρ.set i (.da .o d))
  | .da .l _, .da .l d, i, r, fin, ρ => give r fin (ρ.set i (.da .l d))
  | _, _, _, _, _, _ => none
@[simp] theorem giveE_s {d : D} {f : En} {i : Nat} {r : List Vl} {fin : List En} : giveE (.da .s d) f i r fin ρ = give r fin ρ := by cases f <;> rfl
@[simp] theorem giveE_o {d d' : D} {i : Nat} {r : List Vl} {fin : List En} : giveE (.da .o d) (.da .l d') i r fin ρ = give r fin (ρ.set i (.da .o d')) := rfl
@[simp] theorem giveE_l {d d' : D} {i : Nat} {r : List Vl} {fin : List En} : giveE (.da .l d) (.da .l d') i r fin ρ = give r fin (ρ.set i (.da .l d')) := rfl
@[simp] theorem give_nil {fin : List En} : give [] fin ρ = some ρ := by cases fin <;> rfl
@[simp] theorem give_da {o : Bool} {d : D} {r : List Vl} {f : En} {fin : List En} : give (.da o d :: r) (f :: fin) ρ = give r fin ρ := rfl
@[simp] theorem give_vw {i : Nat} {r : List Vl} {f : En} {fin : List En} : give (.vw i :: r) (f :: fin) ρ = giveE (gt ρ i) f i r fin ρ := by
  show (match gt ρ i, f with
    | .da .s _, _ => give r fin ρ
    | .da w _, .da .l d => give r fin (ρ.set i (.da w d))
    | _, _ => none) = _
  cases gt ρ i with
  | un => cases f <;> rfl
  | xc x => cases f <;> rfl
  | da w d => cases w <;> cases f <;> first | rfl | (rename_i w' d'; cases w' <;> rfl)
@[simp] theorem vws_nil : vws [] = [] := rfl
@[simp] theorem vws_da {o : Bool} {d : D} {r : List Vl} : vws (.da o d :: r) = vws r := rfl
@[simp] theorem vws_vw {i : Nat} {r : List Vl} : vws (.vw i :: r) = i :: vws r := rfl
def giveR (v : Vl) : Option (List En) → Rs Vl
  | some ρ => .ok v ρ
  | none => .no
@[simp] theorem giveR_some {v : Vl} : giveR v (some ρ) = .ok v ρ := rfl
def giveX (x : Xc) : Option (List En) → Rs Vl
  | some ρ => .ex x ρ
  | none => .no
@[simp] theorem giveX_some {x : Xc} : giveX x (some ρ) = .ex x ρ := rfl
def callR (vs : List Vl) (ρ : List En) : FR → Rs Vl
  | .ok o d fin => giveR (.da o d) (give vs fin ρ)
  | .ex x fin => giveX x (give vs fin ρ)
  | .no => .no
@[simp] theorem callR_ok {vs : List Vl} {o : Bool} {d : D} {fin : List En} : callR vs ρ (.ok o d fin) = giveR (.da o d) (give vs fin ρ) := rfl
@[simp] theorem callR_ex {vs : List Vl} {x : Xc} {fin : List En} : callR vs ρ (.ex x fin) = giveX x (give vs fin ρ) := rfl
def lendR (φ : List En → FR) (vs : List Vl) (ρ : List En) : Option (List En) → Rs Vl
  | some as => callR vs ρ (φ as)
  | none => .no
@[simp] theorem lendR_some {φ : List En → FR} {vs : List Vl} {as : List En} : lendR φ vs ρ (some as) = callR vs ρ (φ as) := rfl
@[simp] theorem doCall_eq {φ : List En → FR} {vs : List Vl} : doCall φ vs ρ = if (vws vs).Nodup then lendR φ vs ρ (lend ρ vs) else .no := by
  unfold doCall
  split
  · cases lend ρ vs with
    | none => rfl
    | some as =>
      show (match φ as with
        | .ok o d fin => (match give vs fin ρ with
          | some ρ' => Rs.ok (.da o d) ρ'
          | none => .no)
        | .ex x fin => (match give vs fin ρ with
          | some ρ' => .ex x ρ'
          | none => .no)
        | .no => .no) = callR vs ρ (φ as)
      cases φ as with
      | ok o d fin => simp only [callR_ok]; cases give vs fin ρ <;> rfl
      | ex x fin => simp only [callR_ex]; cases give vs fin ρ <;> rfl
      | no => rfl
  · rfl
/-! ### a def's end -/
@[simp] theorem endD_rt {np : Nat} {o : Bool} {d : D} : endD np (.ok (.rt o d) ρ) = .ok o d (fins np ρ) := rfl
@[simp] theorem endD_nx {np : Nat} : endD np (.ok .nx ρ) = .ok false .non (fins np ρ) := rfl
@[simp] theorem endD_ex {np : Nat} {x : Xc} : endD np (.ex x ρ) = .ex x (fins np ρ) := rfl
@[simp] theorem endD_if {np : Nat} {c : Prop} [Decidable c] {a b : Rs Fl} : endD np (if c then a else b) = if c then endD np a else endD np b := by split <;> rfl
@[simp] theorem fins_0 : fins 0 ρ = [] := rfl
@[simp] theorem fins_1 : fins 1 ρ = [gt ρ 0] := rfl
@[simp] theorem fins_2 : fins 2 ρ = [gt ρ 0, gt ρ 1] := rfl
@[simp] theorem fins_3 : fins 3 ρ = [gt ρ 0, gt ρ 1, gt ρ 2] := rfl
@[simp] theorem fins_4 : fins 4 ρ = [gt ρ 0, gt ρ 1, gt ρ 2, gt ρ 3] := rfl
@[simp] theorem fins_5 : fins 5 ρ = [gt ρ 0, gt ρ 1, gt ρ 2, gt ρ 3, gt ρ 4] := rfl
@[simp] theorem fins_6 : fins 6 ρ = [gt ρ 0, gt ρ 1, gt ρ 2, gt ρ 3, gt ρ 4, gt ρ 5] := rfl
theorem runD_eq {g : Gx} {np nn : Nat} {body : Sts} {as : List En} (h : as.length = np) : runD g ⟨np, nn, body⟩ as = endD np (ess g body (as ++ List.replicate (nn - np) .un)) := by
  unfold runD
  rw [if_pos h]
theorem phi_df {n k np nn : Nat} {body : Sts} {as : List En} (h : FS k = some ⟨np, nn, body⟩) (hl : as.length = np) : Φ (n + 1) k as = endD np (ess (GG n) body (as ++ List.replicate (nn - np) .un)) := by
  rw [phi_run h, runD_eq hl]
/-! ### loops -/
theorem clp_map {f : D → List En → Rs (Option D)} {h : D → Option D} : ∀ {xs : List D}, (∀ x ∈ xs, f x ρ = .ok (h x) ρ) → clp f xs ρ = .ok (xs.filterMap h) ρ
  | [], _ => rfl
  | x :: xs, H => by
    show (f x ρ).bd _ = _
    rw [H x List.mem_cons_self]
    show (clp f xs ρ).bd _ = _
    rw [clp_map fun y hy => H y (List.mem_cons_of_mem _ hy), List.filterMap_cons]
    cases h x <;> rfl
theorem clp_all {f : D → List En → Rs (Option D)} {h : D → D} {xs : List D} (H : ∀ x ∈ xs, f x ρ = .ok (some (h x)) ρ) : clp f xs ρ = .ok (xs.map h) ρ := by
  rw [clp_map (h := fun x => some (h x)) H]
  congr 1
  induction xs with
  | nil => rfl
  | cons x xs ih => rw [List.filterMap_cons, List.map_cons, ih fun y hy => H y (List.mem_cons_of_mem _ hy)]
theorem clpF {α : Type} {F : α → D} {f : D → List En → Rs (Option D)} {h : α → D} : ∀ {l : List α}, (∀ a ∈ l, f (F a) ρ = .ok (some (h a)) ρ) → clp f (l.map F) ρ = .ok (l.map h) ρ
  | [], _ => rfl
  | x :: xs, H => by
    show (f (F x) ρ).bd _ = _
    rw [H x List.mem_cons_self]
    show (clp f (xs.map F) ρ).bd _ = _
    rw [clpF fun y hy => H y (List.mem_cons_of_mem _ hy)]
    rfl
theorem clpP {α : Type} {F : α → D} {f : D → List En → Rs (Option D)} {h : α → D} {p : α → Bool} : ∀ {l : List α}, (∀ a ∈ l, f (F a) ρ = .ok (if p a = true then some (h a) else none) ρ) → clp f (l.map F) ρ = .ok ((l.filter p).map h) ρ
  | [], _ => rfl
  | x :: xs, H => by
    show (f (F x) ρ).bd _ = _
    rw [H x List.mem_cons_self]
    show (clp f (xs.map F) ρ).bd _ = _
    rw [clpP fun y hy => H y (List.mem_cons_of_mem _ hy), List.filter_cons]
    cases p x <;> rfl
theorem clp2F {α : Type} {F : α → D} {f : D → List En → Rs (Option (D × D))} {h : α → D × D} : ∀ {l : List α}, (∀ a ∈ l, f (F a) ρ = .ok (some (h a)) ρ) → clp2 f (l.map F) ρ = .ok (l.map h) ρ
  | [], _ => rfl
  | x :: xs, H => by
    show (f (F x) ρ).bd _ = _
    rw [H x List.mem_cons_self]
    show (clp2 f (xs.map F) ρ).bd _ = _
    rw [clp2F fun y hy => H y (List.mem_cons_of_mem _ hy)]
    rfl
theorem clp2_all {f : D → List En → Rs (Option (D × D))} {h : D → D × D} : ∀ {xs : List D}, (∀ x ∈ xs, f x ρ = .ok (some (h x)) ρ) → clp2 f xs ρ = .ok (xs.map h) ρ
  | [], _ => rfl
  | x :: xs, H => by
    show (f x ρ).bd _ = _
    rw [H x List.mem_cons_self]
    show (clp2 f xs ρ).bd _ = _
    rw [clp2_all fun y hy => H y (List.mem_cons_of_mem _ hy), List.map_cons]
    rfl
theorem flp_inv {f : D → List En → Rs Fl} {xs : List D} (I : Nat → List En → Prop) (h0 : I 0 ρ) (hs : ∀ i x ρ, xs[i]? = some x → I i ρ → ∃ ρ', (f x ρ = .ok .nx ρ' ∨ f x ρ = .ok .ct ρ') ∧ I (i + 1) ρ') :
    ∃ ρ', flp f xs ρ = .ok .nx ρ' ∧ I xs.length ρ' := by
  induction xs generalizing I ρ with
  | nil => exact ⟨ρ, rfl, h0⟩
  | cons x xs ih =>
    obtain ⟨ρ1, e, h1⟩ := hs 0 x ρ rfl h0
    obtain ⟨ρ2, e2, h2⟩ := ih (fun i => I (i + 1)) h1 fun i y ρ hy hI => hs (i + 1) y ρ hy hI
    refine ⟨ρ2, ?_, h2⟩
    show (f x ρ).bd _ = _
    rcases e with e | e <;> (rw [e]; exact e2)
theorem flp_stay {f : D → List En → Rs Fl} {xs : List D} (hs : ∀ x ∈ xs, f x ρ = .ok .nx ρ) : flp f xs ρ = .ok .nx ρ := by
  induction xs with
  | nil => rfl
  | cons x xs ih =>
    show (f x ρ).bd _ = _
    rw [hs x List.mem_cons_self]
    exact ih fun y hy => hs y (List.mem_cons_of_mem _ hy)
theorem wlp_inv {t : List En → Rs Bool} {f : List En → Rs Fl} (I : Nat → List En → Prop) {m N : Nat} (hm : m < N) (h0 : I m ρ)
    (hs : ∀ m ρ, I m ρ → (∃ ρ1, t ρ = .ok false ρ1) ∨ (∃ ρ1 ρ2 m', t ρ = .ok true ρ1 ∧ (f ρ1 = .ok .nx ρ2 ∨ f ρ1 = .ok .ct ρ2) ∧ m' < m ∧ I m' ρ2)) : ∃ ρ' ρ0 k, wlp t f N ρ = .ok .nx ρ' ∧ I k ρ0 ∧ t ρ0 = .ok false ρ' := by
  induction N generalizing m ρ with
  | zero => omega
  | succ N ih =>
    rcases hs m ρ h0 with ⟨ρ1, e1⟩ | ⟨ρ1, ρ2, m', e1, e2, hm', h2⟩
    · exact ⟨ρ1, ρ, m, by show (t ρ).bd _ = _; rw [e1]; rfl, h0, e1⟩
    · obtain ⟨ρ', ρ0, k, e3, h3⟩ := ih (m := m') (by omega) h2
      refine ⟨ρ', ρ0, k, ?_, h3⟩
      show (t ρ).bd _ = _
      rw [e1]
      show (f ρ1).bd _ = _
      rcases e2 with e2 | e2 <;> (rw [e2]; exact e3)
end
/-! ### data -/
def isInt : D → Bool
  | .int _ => true
  | _ => false
def okI : D → Bool
  | .fn _ => false
  | .ins _ _ => false
  | .dct true _ _ => false
  | _ => true
@[simp] theorem okI_int {i : Int} : okI (.int i) = true := id rfl
@[simp] theorem okI_tup {xs : List D} : okI (.tup xs) = true := id rfl
@[simp] theorem okI_lst {xs : List D} : okI (.lst xs) = true := id rfl
@[simp] theorem okI_non : okI .non = true := id rfl
@[simp] theorem okI_bl {b : Bool} : okI (.bl b) = true := id rfl
@[simp] theorem okI_str {b : PySem.Str} : okI (.str b) = true := id rfl
@[simp] theorem isInt_int {i : Int} : isInt (.int i) = true := rfl
@[simp] theorem isInt_tup {xs : List D} : isInt (.tup xs) = false := rfl
@[simp] theorem isInt_lst {xs : List D} : isInt (.lst xs) = false := rfl
@[simp] theorem isInt_non : isInt .non = false := rfl
@[simp] theorem isInt_bl {b : Bool} : isInt (.bl b) = false := rfl
@[simp] theorem isInt_str {b : PySem.Str} : isInt (.str b) = false := rfl
theorem isiO_ok {t : Ty} {d : D} (h : okI d = true) : isiO t d = some (.bl (isiD t d)) := by
  cases d with
  | dct t _ _ => cases t <;> first | rfl | cases h
  | _ => first | rfl | cases h
@[simp] theorem isiO_i {t : Ty} {i : Int} : isiO t (.int i) = some (.bl (isiD t (.int i))) := rfl
@[simp] theorem isiO_t {t : Ty} {xs : List D} : isiO t (.tup xs) = some (.bl (isiD t (.tup xs))) := rfl
@[simp] theorem isiO_l {t : Ty} {xs : List D} : isiO t (.lst xs) = some (.bl (isiD t (.lst xs))) := rfl
@[simp] theorem isiD_ti {i : Int} : isiD .tuple (.int i) = false := rfl
@[simp] theorem isiD_tt {xs : List D} : isiD .tuple (.tup xs) = true := rfl
@[simp] theorem isiD_tl {xs : List D} : isiD .tuple (.lst xs) = false := rfl
@[simp] theorem p_not {b : Bool} : prim1 .not (.bl b) = some (.bl (!b)) := rfl
@[simp] theorem p_neg {i : Int} : prim1 .neg (.int i) = some (.int (-i)) := rfl
@[simp] theorem p_isN_non : prim1 .isN .non = some (.bl true) := rfl
@[simp] theorem p_isN_int {i : Int} : prim1 .isN (.int i) = some (.bl false) := rfl
@[simp] theorem p_isN_tup {i : List D} : prim1 .isN (.tup i) = some (.bl false) := rfl
@[simp] theorem p_notN_non : prim1 .notN .non = some (.bl false) := rfl
@[simp] theorem p_notN_int {i : Int} : prim1 .notN (.int i) = some (.bl true) := rfl
@[simp] theorem p_notN_tup {i : List D} : prim1 .notN (.tup i) = some (.bl true) := rfl
@[simp] theorem p_add {i j : Int} : prim2 .add (.int i) (.int j) = some (false, .int (i + j)) := rfl
@[simp] theorem p_addt {xs ys : List D} : prim2 .add (.tup xs) (.tup ys) = if szOk (xs.length + ys.length) then some (false, .tup (xs ++ ys)) else none := rfl
@[simp] theorem p_addl {xs ys : List D} : prim2 .add (.lst xs) (.lst ys) = if szOk (xs.length + ys.length) then some (true, .lst (xs ++ ys)) else none := rfl
@[simp] theorem p_sub {i j : Int} : prim2 .sub (.int i) (.int j) = some (false, .int (i - j)) := rfl
theorem p_mul {i j : Int} (h : small64 i = true ∨ small64 j = true) : prim2 .mul (.int i) (.int j) = some (false, .int (i * j)) := by
  show (if (small64 i || small64 j) = true then _ else none) = _
  rw [if_pos (by rw [Bool.or_eq_true]; exact h)]
theorem p_fdv {i j : Int} (h : 0 < j) (h2 : j < 1073741824) : prim2 .fdv (.int i) (.int j) = some (false, .int (i / j)) := by
  show (if (decide (0 < j) && decide (j < two30)) = true then _ else none) = _
  rw [if_pos (by unfold two30; simp [h, h2])]
theorem p_mod {i j : Int} (h : 0 < j) : prim2 .mod (.int i) (.int j) = some (false, .int (i % j)) := by
  show (if decide (0 < j) = true then _ else none) = _
  rw [if_pos (decide_eq_true h)]
@[simp] theorem p_lt {i j : Int} : prim2 .lt (.int i) (.int j) = some (false, .bl (decide (i < j))) := rfl
@[simp] theorem p_le {i j : Int} : prim2 .le (.int i) (.int j) = some (false, .bl (decide (i ≤ j))) := rfl
@[simp] theorem p_gt {i j : Int} : prim2 .gt (.int i) (.int j) = some (false, .bl (decide (j < i))) := rfl
@[simp] theorem p_ge {i j : Int} : prim2 .ge (.int i) (.int j) = some (false, .bl (decide (j ≤ i))) := rfl
@[simp] theorem cmp_int {i : Int} : (D.int i).cmpOk = true := id rfl
@[simp] theorem cmp_non : (D.non).cmpOk = true := id rfl
@[simp] theorem cmp_str {x : PySem.Str} : (D.str x).cmpOk = true := id rfl
@[simp] theorem cmp_bl {b : Bool} : (D.bl b).cmpOk = true := id rfl
theorem p_eq {a b : D} (h1 : a.cmpOk = true) (h2 : b.cmpOk = true) : prim2 .eq a b = some (false, .bl (D.eqb a b)) := by
  show (if (a.cmpOk && b.cmpOk) = true then _ else none) = _
  rw [h1, h2]
  rfl
theorem p_ne {a b : D} (h1 : a.cmpOk = true) (h2 : b.cmpOk = true) : prim2 .ne a b = some (false, .bl (!D.eqb a b)) := by
  show (if (a.cmpOk && b.cmpOk) = true then _ else none) = _
  rw [h1, h2]
  rfl
@[simp] theorem p_eqi {i j : Int} : prim2 .eq (.int i) (.int j) = some (false, .bl (decide (i = j))) := by
  rw [p_eq rfl rfl]
  rfl
@[simp] theorem p_nei {i j : Int} : prim2 .ne (.int i) (.int j) = some (false, .bl (!decide (i = j))) := by
  rw [p_ne rfl rfl]
  rfl
@[simp] theorem eqb_int {i j : Int} : D.eqb (.int i) (.int j) = decide (i = j) := rfl
@[simp] theorem eqb_in {i : Int} : D.eqb (.int i) .non = false := rfl
@[simp] theorem eqb_ni {i : Int} : D.eqb .non (.int i) = false := rfl
@[simp] theorem eqb_nn : D.eqb .non .non = true := rfl
@[simp] theorem eqb_tup {xs ys : List D} : D.eqb (.tup xs) (.tup ys) = D.eqbs xs ys := by rw [D.eqb]
@[simp] theorem eqb_lst {xs ys : List D} : D.eqb (.lst xs) (.lst ys) = D.eqbs xs ys := by rw [D.eqb]
@[simp] theorem eqbs_nil : D.eqbs [] [] = true := by rw [D.eqbs]
@[simp] theorem eqbs_cons {x y : D} {xs ys : List D} : D.eqbs (x :: xs) (y :: ys) = (D.eqb x y && D.eqbs xs ys) := by rw [D.eqbs]
@[simp] theorem eqbs_cn {x : D} {xs : List D} : D.eqbs (x :: xs) [] = false := by rw [D.eqbs] <;> simp
@[simp] theorem eqbs_nc {x : D} {xs : List D} : D.eqbs [] (x :: xs) = false := by rw [D.eqbs] <;> simp
/-! lengths, items -/
@[simp] theorem b_lent {xs : List D} : biD .len [.tup xs] = some (false, .int xs.length) := rfl
@[simp] theorem b_lenl {xs : List D} : biD .len [.lst xs] = some (false, .int xs.length) := rfl
@[simp] theorem b_lend {t : Bool} {ks vs : List D} : biD .len [.dct t ks vs] = some (false, .int ks.length) := rfl
@[simp] theorem b_abs {i : Int} : biD .abs [.int i] = some (false, .int (if i < 0 then -i else i)) := rfl
@[simp] theorem b_tupl {xs : List D} : biD .tuple [.lst xs] = some (false, .tup xs) := rfl
@[simp] theorem b_tupt {xs : List D} : biD .tuple [.tup xs] = some (false, .tup xs) := rfl
@[simp] theorem b_lstl {xs : List D} : biD .list [.lst xs] = some (true, .lst xs) := rfl
@[simp] theorem b_lstt {xs : List D} : biD .list [.tup xs] = some (true, .lst xs) := rfl
@[simp] theorem b_int {i : Int} : biD .int [.int i] = some (false, .int i) := rfl
@[simp] theorem b_max2 {i j : Int} : biD .max2 [.int i, .int j] = some (false, .int (if j > i then j else i)) := rfl
@[simp] theorem b_min2 {i j : Int} : biD .min2 [.int i, .int j] = some (false, .int (if j < i then j else i)) := rfl
@[simp] theorem ints_map {l : List Int} : D.ints (l.map D.int) = some l := by
  induction l with
  | nil => rfl
  | cons i l ih => rw [List.map_cons]; unfold D.ints; rw [ih]; rfl
@[simp] theorem bls_map {l : List Bool} : D.bls (l.map D.bl) = some l := by
  induction l with
  | nil => rfl
  | cons i l ih => rw [List.map_cons]; unfold D.bls; rw [ih]; rfl
theorem b_all {l : List Bool} : biD .all [.lst (l.map D.bl)] = some (false, .bl (l.all id)) := by
  show (D.bls (l.map D.bl)).map _ = _
  rw [bls_map]; rfl
theorem b_allF {α : Type} {l : List α} {p : α → Bool} : biD .all [.lst (l.map fun a => D.bl (p a))] = some (false, .bl (l.all p)) := by
  have : (l.map fun a => D.bl (p a)) = (l.map p).map D.bl := by simp
  rw [this, b_all]
  simp [List.all_map]
theorem b_sumF {α : Type} {l : List α} {p : α → Int} : biD .sum [.lst (l.map fun a => D.int (p a))] = some (false, .int (l.map p).sum) := by
  have : (l.map fun a => D.int (p a)) = (l.map p).map D.int := by simp
  rw [this]
  show (D.ints ((l.map p).map D.int)).map _ = _
  rw [ints_map]; rfl
theorem b_any {l : List Bool} : biD .any [.lst (l.map D.bl)] = some (false, .bl (l.any id)) := by
  show (D.bls (l.map D.bl)).map _ = _
  rw [bls_map]; rfl
theorem b_sum {l : List Int} : biD .sum [.lst (l.map D.int)] = some (false, .int l.sum) := by
  show (D.ints (l.map D.int)).map _ = _
  rw [ints_map]; rfl
theorem idx_nat {xs : List D} {i : Nat} {v : D} (h : xs[i]? = some v) : idxD (.tup xs) (.int i) = some v := atI_nat h
theorem idx_natl {xs : List D} {i : Nat} {v : D} (h : xs[i]? = some v) : idxD (.lst xs) (.int i) = some v := atI_nat h
@[simp] theorem idx_0 {x : D} {xs : List D} : idxD (.tup (x :: xs)) (.int 0) = some x := idx_nat (i := 0) rfl
@[simp] theorem idx_1 {x y : D} {xs : List D} : idxD (.tup (x :: y :: xs)) (.int 1) = some y := idx_nat (i := 1) rfl
@[simp] theorem idx_2 {x y z : D} {xs : List D} : idxD (.tup (x :: y :: z :: xs)) (.int 2) = some z := idx_nat (i := 2) rfl
@[simp] theorem idx_3 {x y z w : D} {xs : List D} : idxD (.tup (x :: y :: z :: w :: xs)) (.int 3) = some w := idx_nat (i := 3) rfl
@[simp] theorem idx_l0 {x : D} {xs : List D} : idxD (.lst (x :: xs)) (.int 0) = some x := idx_natl (i := 0) rfl
theorem cut_from {xs : List D} {k : Nat} : cutL xs (some (k : Int)) none = xs.drop k := by
  unfold cutL
  rw [HT.sIx_nat, HT.sIx_none, List.take_of_length_le (by rw [List.length_drop]; exact Nat.le_refl _)]
  by_cases h : k ≤ xs.length
  · rw [Nat.min_eq_left h]
  · rw [Nat.min_eq_right (by omega), List.drop_length, List.drop_eq_nil_of_le (by omega)]
theorem cut_to {xs : List D} {k : Nat} : cutL xs none (some (k : Int)) = xs.take k := by
  unfold cutL
  rw [HT.sIx_nat, HT.sIx_none, List.drop_zero, Nat.sub_zero]
  by_cases h : k ≤ xs.length
  · rw [Nat.min_eq_left h]
  · rw [Nat.min_eq_right (by omega), List.take_length, List.take_of_length_le (by omega)]
@[simp] theorem sl_from1 {xs : List D} : slD (.tup xs) (some 1) none = some (false, .tup (xs.drop 1)) := by
  show some (false, D.tup (cutL xs (some ((1 : Nat) : Int)) none)) = _
  rw [cut_from]
@[simp] theorem sl_to2 {xs : List D} : slD (.tup xs) none (some 2) = some (false, .tup (xs.take 2)) := by
  show some (false, D.tup (cutL xs none (some ((2 : Nat) : Int)))) = _
  rw [cut_to]
theorem rngOk_s {a b : Int} (h1 : -1000000000 ≤ a) (h2 : a ≤ 1000000000) (h3 : -1000000000 ≤ b) (h4 : b ≤ 1000000000) : rngOk a b = true := by
  unfold rngOk
  simp only [Bool.and_eq_true, decide_eq_true_eq]
  omega
theorem rngL_len {a b : Int} : (rngL a b).length = (b - a).toNat := by
  unfold rngL
  rw [List.length_map, List.length_range]
theorem rngL_get {a b : Int} {i : Nat} {x : D} (h : (rngL a b)[i]? = some x) : x = .int (a + i) ∧ i < (b - a).toNat := by
  have hi := (List.getElem?_eq_some_iff.mp h).1
  rw [rngL_len] at hi
  unfold rngL at h
  rw [List.getElem?_map, List.getElem?_range hi] at h
  cases h
  exact ⟨rfl, hi⟩
theorem small_of {i : Int} (h1 : -18446744073709551616 < i) (h2 : i < 18446744073709551616) : small64 i = true := by
  unfold small64
  rw [decide_eq_true_eq]
  omega
@[simp] theorem nodup0 : ([] : List Nat).Nodup := List.nodup_nil
end G
set_option maxHeartbeats 4000000
/-! E2: integers, tuples, nets judged. -/
namespace G
open L2
section
variable {n : Nat}
theorem is_int_ok (hn : 1 ≤ n) {d : D} (h : okI d = true) : Φ n k_is_int [.da .s d] = .ok false (.bl (isInt d)) [.da .s d] := by
  obtain ⟨n, rfl⟩ := Nat.exists_eq_add_of_le' hn
  refine Eq.trans (phi_df fs_is_int rfl) ?_
  simp [isiO_ok h]
  cases d <;> simp [isiD, isInt]
def isWithin (lo hi : Int) : D → Bool
  | .int i => decide (lo ≤ i) && decide (i ≤ hi)
  | _ => false
@[simp] theorem isWithin_int {lo hi i : Int} : isWithin lo hi (.int i) = (decide (lo ≤ i) && decide (i ≤ hi)) := rfl
theorem is_within_ok (hn : 2 ≤ n) {d : D} {lo hi : Int} (h : okI d = true) : Φ n k_is_within [.da .s d, .da .s (.int lo), .da .s (.int hi)] = .ok false (.bl (isWithin lo hi d)) [.da .s d, .da .s (.int lo), .da .s (.int hi)] := by
  obtain ⟨n, rfl⟩ := Nat.exists_eq_add_of_le' hn
  refine Eq.trans (phi_df fs_is_within rfl) ?_
  simp [is_int_ok, h]
  cases d with
  | int i => by_cases h1 : lo ≤ i <;> simp [h1]
  | _ => simp [isInt, isWithin]
def isSized (lo hi : Int) : D → Bool
  | .tup xs => decide (lo ≤ xs.length) && decide ((xs.length : Int) ≤ hi)
  | _ => false
@[simp] theorem isSized_tup {lo hi : Int} {xs : List D} : isSized lo hi (.tup xs) = (decide (lo ≤ xs.length) && decide ((xs.length : Int) ≤ hi)) := rfl
theorem is_sized_ok (hn : 1 ≤ n) {d : D} {lo hi : Int} (h : okI d = true) : Φ n k_is_sized [.da .s d, .da .s (.int lo), .da .s (.int hi)] = .ok false (.bl (isSized lo hi d)) [.da .s d, .da .s (.int lo), .da .s (.int hi)] := by
  obtain ⟨n, rfl⟩ := Nat.exists_eq_add_of_le' hn
  refine Eq.trans (phi_df fs_is_sized rfl) ?_
  cases d with
  | tup xs => by_cases h1 : lo ≤ (xs.length : Int) <;> simp [h1]
  | _ => simp [isSized, isiO_ok h, isiD]
/-! neighbours -/
def chainB {α : Type} (r : α → α → Bool) : List α → Bool
  | [] => true
  | [_] => true
  | x :: y :: l => r x y && chainB r (y :: l)
theorem zipD_cc {x y : D} {xs ys : List D} : zipD (x :: xs) (y :: ys) = .tup [x, y] :: zipD xs ys := rfl
theorem clp_adj {α : Type} {F : α → D} {r : α → α → Bool} {f : D → List En → Rs (Option D)} {ρ : List En} (hf : ∀ a b, f (.tup [F a, F b]) ρ = .ok (some (.bl (r a b))) ρ) :
    ∀ l : List α, ∃ L : List Bool, clp f (zipD (l.map F) (l.map F).tail) ρ = .ok (L.map D.bl) ρ ∧ L.all id = chainB r l ∧ L.length ≤ l.length
  | [] => ⟨[], rfl, rfl, Nat.le_refl _⟩
  | [_] => ⟨[], rfl, rfl, Nat.zero_le _⟩
  | x :: y :: l => by
    obtain ⟨L, e, h, hl⟩ := clp_adj hf (y :: l)
    refine ⟨r x y :: L, ?_, ?_, ?_⟩
    · show (f (.tup [F x, F y]) ρ).bd _ = _
      rw [hf]
      show (clp f (zipD ((y :: l).map F) ((y :: l).map F).tail) ρ).bd _ = _
      rw [e]
      rfl
    · rw [List.all_cons, h]
      rfl
    · simp only [List.length_cons] at hl ⊢
      omega
theorem is_rising_ok (hn : 1 ≤ n) {α : Type} {F : α → D} {r : α → α → Bool} (hF : ∀ a b, D.lt (F a) (F b) = some (r a b)) {l : List α} (hl : l.length ≤ 10000) :
    Φ n k_is_rising [.da .s (.tup (l.map F))] = .ok false (.bl (chainB r l)) [.da .s (.tup (l.map F))] := by
  obtain ⟨n, rfl⟩ := Nat.exists_eq_add_of_le' hn
  refine Eq.trans (phi_df fs_is_rising rfl) ?_
  obtain ⟨L, e, h, hL⟩ := clp_adj (f := cturn (GG n) [1, 2] (Ex.op2 Op2.lt (Ex.var 1) (Ex.var 2)) (Tg.t (Tgs.cons (Tg.v 1) (Tgs.cons (Tg.v 2) Tgs.nil))) Tes.nil) (F := F) (r := r) (ρ := [.da .s (.tup (l.map F)), .un, .un]) (fun a b => by simp [cturn, wp, prim2, hF]) l
  simp [wp, bk, e, b_all, h, szOk_lit (Nat.le_trans hL hl)]
/-! nets -/
structure Bd where
  i : Int
  j : Int
  w : Int
structure La where
  a : Int
  lo : Int
  hi : Int
  c : Int
def bD (b : Bd) : D := .tup [.int b.i, .int b.j, .int b.w]
def lD (l : La) : D := .tup [.int l.a, .int l.lo, .int l.hi, .int l.c]
structure Net where
  many : Int
  bds : List Bd
  las : List La
def Net.d (N : Net) : D := .tup [.int N.many, .tup (N.bds.map bD), .tup (N.las.map lD)]
structure LaOk (m : Int) (l : La) : Prop where
  a0 : 0 ≤ l.a
  a1 : l.a ≤ m - 1
  c0 : 1 ≤ l.c
  c1 : l.c ≤ m - 1
  l0 : 1 ≤ l.lo
  h1 : l.hi ≤ 1000
  lh : l.lo ≤ l.hi
  ac : l.a ≠ l.c
theorem is_last_ok (hn : 3 ≤ n) {m : Int} {l : La} (h : LaOk m l) : Φ n k_is_last [.da .s (.int m), .da .s (lD l)] = .ok false (.bl true) [.da .s (.int m), .da .s (lD l)] := by
  obtain ⟨n, rfl⟩ := Nat.exists_eq_add_of_le' hn
  refine Eq.trans (phi_df fs_is_last rfl) ?_
  obtain ⟨h1, h2, h3, h4, h5, h6, h7, h8⟩ := h
  have h9 : 1 ≤ l.hi := by omega
  have h10 : l.lo ≤ 1000 := by omega
  simp [lD, is_sized_ok, is_within_ok, gc_MOST_LENGTH, *]
structure BdOk (m : Int) (b : Bd) : Prop where
  i0 : 0 ≤ b.i
  i1 : b.i ≤ m - 1
  j0 : 0 ≤ b.j
  j1 : b.j ≤ m - 1
  ij : b.i ≠ b.j
  w0 : -100000 ≤ b.w
  w1 : b.w ≤ 100000
theorem is_bound_ok (hn : 3 ≤ n) {m : Int} {b : Bd} (h : BdOk m b) : Φ n k_is_bound [.da .s (.int m), .da .s (bD b)] = .ok false (.bl true) [.da .s (.int m), .da .s (bD b)] := by
  obtain ⟨n, rfl⟩ := Nat.exists_eq_add_of_le' hn
  refine Eq.trans (phi_df fs_is_bound rfl) ?_
  obtain ⟨h1, h2, h3, h4, h5, h6, h7⟩ := h
  simp [bD, is_sized_ok, is_within_ok, gc_MOST_WORTH, *]
def pairLt (a b : Bd) : Bool := lexLt [a.i, a.j] [b.i, b.j]
theorem are_bounds_ok (hn : 4 ≤ n) {m : Int} {l : List Bd} (h : ∀ b ∈ l, BdOk m b) (hl : l.length ≤ 60) :
    Φ n k_are_bounds [.da .s (.int m), .da .s (.tup (l.map bD))] = .ok false (.bl (chainB pairLt l)) [.da .s (.int m), .da .s (.tup (l.map bD))] := by
  obtain ⟨n, rfl⟩ := Nat.exists_eq_add_of_le' hn
  refine Eq.trans (phi_df fs_are_bounds rfl) ?_
  have e1 := clpF (l := l) (F := bD) (h := fun _ => .bl true) (ρ := [.da .s (.int m), .da .s (.tup (l.map bD)), .un, .un]) (f := cturn (GG (n + 3)) [2] (Ex.call k_is_bound (Exs.cons (Ex.var 0) (Exs.cons (Ex.var 2) Exs.nil))) (Tg.v 2) Tes.nil)
    (fun b hb => by simp [cturn, wp, is_bound_ok, h b hb])
  obtain ⟨L, e2, h2, hL⟩ := clp_adj (f := cturn (GG (n + 3)) [2, 3] (Ex.op2 Op2.lt ((Ex.var 2).sl Ox.no (Ox.so (Ex.int 2))) ((Ex.var 3).sl Ox.no (Ox.so (Ex.int 2)))) (Tg.t (Tgs.cons (Tg.v 2) (Tgs.cons (Tg.v 3) Tgs.nil))) Tes.nil)
    (F := bD) (r := pairLt) (ρ := [.da .s (.int m), .da .s (.tup (l.map bD)), .un, .un]) (fun a b => by simp [cturn, wp, prim2, bD, D.lt, D.ints, pairLt]) l
  have h3 : (l.length : Int) ≤ 60 := by omega
  have h4 : l.length ≤ 10000 := by omega
  have h5 : L.length ≤ 10000 := by omega
  have h6 : ∀ l : List Bd, (List.map (fun _ => D.bl true) l) = (l.map fun _ => true).map D.bl := fun l => by simp
  simp [wp, bk, e1, e2, b_all, h2, is_sized_ok, gc_MOST_BOUNDS, h3, h4, h5]
  rw [h6, b_all]
  simp [e2, wp, b_all, h2, h5, bk]
end
end G
set_option maxHeartbeats 4000000
/-! E3: ends rooted; nets are nets. -/
namespace G
open L2
/-- a slot that may be stored to -/
def Fr (e : En) : Prop := e = .un ∨ (∃ d, e = .da .s d) ∨ ∃ d, e = .da .o d
theorem Fr.un : Fr .un := .inl rfl
theorem Fr.s {d : D} : Fr (.da .s d) := .inr (.inl ⟨d, rfl⟩)
theorem Fr.o {d : D} : Fr (.da .o d) := .inr (.inr ⟨d, rfl⟩)
theorem stE_fr {i : Nat} {o : Bool} {d : D} {ρ : List En} {e : En} (h : Fr e) : stE i o d ρ e = if i < ρ.length then .ok () (ρ.set i (.da (ow o) d)) else .no := by
  rcases h with rfl | ⟨_, rfl⟩ | ⟨_, rfl⟩ <;> rfl
theorem has_ints {l : List Int} {x : Int} : hasD (l.map D.int) (.int x) = decide (x ∈ l) := by
  unfold hasD
  induction l with
  | nil => rfl
  | cons y l ih =>
    rw [List.map_cons, List.any_cons, ih]
    by_cases h : y = x
    · simp [h]
    · simp [h, Ne.symm h]
theorem countP_lt {α : Type} {p q : α → Bool} {l : List α} (h : ∀ x, p x = true → q x = true) {y : α} (hy : y ∈ l) (h1 : q y = true) (h2 : p y = false) : l.countP p < l.countP q := by
  induction l with
  | nil => cases hy
  | cons x l ih =>
    have le : l.countP p ≤ l.countP q := List.countP_mono_left fun x _ => h x
    rw [List.countP_cons, List.countP_cons]
    rcases List.mem_cons.mp hy with rfl | hy
    · rw [h1, h2]; simp; omega
    · have := ih hy
      by_cases c : p x = true
      · rw [c, h x c]; simp; omega
      · simp only [Bool.not_eq_true] at c
        rw [c]
        simp only [Bool.false_eq_true, if_false]
        split <;> omega
theorem putAll_new {α : Type} {f : α → Int} {g : α → D} : ∀ {l : List α} {ks : List Int} {vs : List D}, (l.map f).Nodup → (∀ a ∈ l, f a ∉ ks) →
    putAll (ks.map D.int) vs (l.map fun a => (D.int (f a), g a)) = ((ks ++ l.map f).map D.int, vs ++ l.map g)
  | [], ks, vs, _, _ => by simp [putAll]
  | a :: l, ks, vs, hn, hd => by
    rw [List.map_cons, List.nodup_cons] at hn
    have h0 : hasD (ks.map D.int) (.int (f a)) = false := by rw [has_ints]; simp [hd a List.mem_cons_self]
    show putAll (putD (ks.map D.int) vs (.int (f a)) (g a)).1 (putD (ks.map D.int) vs (.int (f a)) (g a)).2 (l.map fun a => (D.int (f a), g a)) = _
    have e : putD (ks.map D.int) vs (.int (f a)) (g a) = ((ks ++ [f a]).map D.int, vs ++ [g a]) := by
      unfold putD
      rw [h0]
      simp
    rw [e]
    dsimp only
    rw [putAll_new (ks := ks ++ [f a]) hn.2 (fun b hb => by
      rw [List.mem_append, List.mem_singleton, not_or]
      exact ⟨hd b (List.mem_cons_of_mem _ hb), fun e => hn.1 (by rw [← e]; exact List.mem_map.mpr ⟨b, hb, rfl⟩)⟩)]
    simp
theorem look_new {α : Type} {f : α → Int} {g : α → D} : ∀ {l : List α} {a : α}, (l.map f).Nodup → a ∈ l → lookD (l.map fun a => D.int (f a)) (l.map g) (.int (f a)) = some (g a)
  | b :: l, a, hn, ha => by
    rw [List.map_cons, List.nodup_cons] at hn
    rw [List.map_cons, List.map_cons]
    unfold lookD
    rcases List.mem_cons.mp ha with rfl | ha
    · simp
    · have : f b ≠ f a := fun e => hn.1 (by rw [e]; exact List.mem_map.mpr ⟨a, ha, rfl⟩)
      simp [this]
      exact look_new hn.2 ha
/-- ends are unlike, no way back leads from an end to it -/
structure Rooted (l : List La) : Prop where
  nd : (l.map La.c).Nodup
  rk : ∃ rank : Int → Nat, ∀ x ∈ l, rank x.a < rank x.c
abbrev rtK (l : List La) : D := .dct false (l.map fun x => D.int x.c) (l.map fun x => D.int x.a)
abbrev rtS (l : List La) (e3 e4 e5 : En) : List En := [.da .s (.tup (l.map lD)), .da .s (rtK l), .un, e3, e4, e5]
abbrev rtM (rank : Int → Nat) (l : List La) (he : Int) : Nat := l.countP fun x => decide (rank x.c ≤ rank he)
section
variable {n : Nat}
theorem rt_has {l : List La} {x : Int} : hasD (l.map fun x => D.int x.c) (.int x) = decide (x ∈ l.map La.c) := by
  rw [← has_ints, List.map_map]
  rfl
theorem rt_test {l : List La} {e he st : Int} : wt_are_rooted_1 (GG n) (rtS l (.da .s (.int e)) (.da .s (.int he)) (.da .s (.int st))) = .ok (decide (he ∈ l.map La.c) && decide (st ≤ l.length)) (rtS l (.da .s (.int e)) (.da .s (.int he)) (.da .s (.int st))) := by
  by_cases h : he ∈ l.map La.c
  · have h2 := h
    simp only [List.mem_map] at h2
    simp [prim2, keyFits, isKey, rt_has, h2]
  · have h2 := h
    simp only [List.mem_map] at h2
    simp [prim2, keyFits, isKey, rt_has, h2]
theorem rt_turn {l : List La} {lb : La} {e st : Int} (nd : (l.map La.c).Nodup) (hlb : lb ∈ l) : wb_are_rooted_1 (GG n) (rtS l (.da .s (.int e)) (.da .s (.int lb.c)) (.da .s (.int st))) = .ok .nx (rtS l (.da .s (.int e)) (.da .s (.int lb.a)) (.da .s (.int (st + 1)))) := by
  have hlook := look_new (f := La.c) (g := fun a => D.int a.a) nd hlb
  simp [idxD, keyFits, isKey, hlook]
theorem rt_while {l : List La} {rank : Int → Nat} (nd : (l.map La.c).Nodup) (rk : ∀ x ∈ l, rank x.a < rank x.c) (hl : l.length ≤ 5) {e : Int} :
    ∃ he st : Int, wlp (wt_are_rooted_1 (GG n)) (wb_are_rooted_1 (GG n)) WH (rtS l (.da .s (.int e)) (.da .s (.int e)) (.da .s (.int 0))) = .ok .nx (rtS l (.da .s (.int e)) (.da .s (.int he)) (.da .s (.int st))) ∧ he ∉ l.map La.c := by
  have cnt : ∀ he, rtM rank l he ≤ l.length := fun he => List.countP_le_length
  obtain ⟨ρ', ρ0, k, w1, ⟨he, st, rfl, w3, w4, w5⟩, w6⟩ := wlp_inv (N := WH) (t := wt_are_rooted_1 (GG n)) (f := wb_are_rooted_1 (GG n)) (ρ := rtS l (.da .s (.int e)) (.da .s (.int e)) (.da .s (.int 0)))
      (fun m ρ => ∃ (he st : Int), ρ = rtS l (.da .s (.int e)) (.da .s (.int he)) (.da .s (.int st)) ∧ 0 ≤ st ∧ st + rtM rank l he ≤ l.length ∧ m = rtM rank l he)
      (m := rtM rank l e) (by
        have := cnt e
        unfold WH
        omega) ⟨e, 0, rfl, by omega, by
        have := cnt e
        omega, rfl⟩ (by
      rintro m ρ ⟨he, st, rfl, s0, s1, rfl⟩
      have hst : st ≤ l.length := by omega
      by_cases hm : he ∈ l.map La.c
      · right
        obtain ⟨lb, hlb, rfl⟩ := List.mem_map.mp hm
        have hlt : rtM rank l lb.a < rtM rank l lb.c := countP_lt (fun x hx => by
          have := rk lb hlb
          simp only [decide_eq_true_eq] at hx ⊢
          omega) hlb (by simp) (by
          have := rk lb hlb
          simp only [decide_eq_false_iff_not]
          omega)
        exact ⟨_, _, rtM rank l lb.a, rt_test.trans (by rw [decide_eq_true hm, decide_eq_true hst]; rfl), .inl (rt_turn nd hlb), hlt, lb.a, st + 1, rfl, by omega, by omega, rfl⟩
      · left
        exact ⟨_, rt_test.trans (by rw [decide_eq_false hm]; rfl)⟩)
  rw [rt_test] at w6
  have hst : st ≤ l.length := by omega
  rw [decide_eq_true hst, Bool.and_true] at w6
  by_cases hm : he ∈ l.map La.c
  · rw [decide_eq_true hm] at w6
    cases w6
  · rw [decide_eq_false hm] at w6
    cases w6
    exact ⟨he, st, w1, hm⟩
theorem are_rooted_ok (hn : 1 ≤ n) {l : List La} (h : Rooted l) (hl : l.length ≤ 5) : Φ n k_are_rooted [.da .s (.tup (l.map lD))] = .ok false (.bl true) [.da .s (.tup (l.map lD))] := by
  obtain ⟨n, rfl⟩ := Nat.exists_eq_add_of_le' hn
  refine Eq.trans (phi_df fs_are_rooted rfl) ?_
  obtain ⟨nd, rank, rk⟩ := h
  have e1 := clp2F (l := l) (F := lD) (h := fun a => (.int a.c, .int a.a)) (ρ := [.da .s (.tup (l.map lD)), .un, .un, .un, .un, .un]) (f := d_are_rooted_3 (GG n))
    (fun b hb => by simp [dturn, wp, lD])
  have e2 := putAll_new (f := La.c) (g := fun a => D.int a.a) (l := l) (ks := []) (vs := []) nd (fun _ _ => by simp)
  simp at e2
  have hk : D.ints (l.map (D.int ∘ La.c)) = some (l.map La.c) := by
    rw [← List.map_map, ints_map]
  have hs : ∀ (i : Nat) (x : D) (ρ : List En), (l.map (D.int ∘ La.c))[i]? = some x → (∃ e3 e4 e5, ρ = rtS l e3 e4 e5 ∧ Fr e3 ∧ Fr e4 ∧ Fr e5) →
      ∃ ρ', (f_are_rooted_2 (GG n) x ρ = .ok .nx ρ' ∨ f_are_rooted_2 (GG n) x ρ = .ok .ct ρ') ∧ (∃ e3 e4 e5, ρ' = rtS l e3 e4 e5 ∧ Fr e3 ∧ Fr e4 ∧ Fr e5) := by
    rintro i x ρ hx ⟨e3, e4, e5, rfl, f3, f4, f5⟩
    rw [List.getElem?_map] at hx
    obtain ⟨la, hla, rfl⟩ : ∃ la, l[i]? = some la ∧ x = .int la.c := by
      cases q : l[i]? with
      | none => rw [q] at hx; cases hx
      | some la => rw [q] at hx; exact ⟨la, rfl, (Option.some.inj hx).symm⟩
    obtain ⟨he, st, w1, w2⟩ := rt_while (n := n) nd rk hl (e := la.c)
    refine ⟨rtS l (.da .s (.int la.c)) (.da .s (.int he)) (.da .s (.int st)), Or.inl ?_, _, _, _, rfl, .s, .s, .s⟩
    have w2' := w2
    simp only [List.mem_map] at w2'
    simp [fturn, stE_fr, f3, f4, f5, w1, prim2, keyFits, isKey, rt_has, w2']
  obtain ⟨ρ', e3, e3', e4', e5', rfl, -, -, -⟩ := flp_inv (fun i ρ => ∃ e3 e4 e5, ρ = rtS l e3 e4 e5 ∧ Fr e3 ∧ Fr e4 ∧ Fr e5) ⟨_, _, _, rfl, .un, .un, .un⟩ hs
  have e3' : flp (f_are_rooted_2 (GG n)) (l.map (D.int ∘ La.c)) [.da .s (.tup (l.map lD)), .da .s (.dct false (l.map (D.int ∘ La.c)) (l.map fun x => .int x.a)), .un, .un, .un, .un] = _ := e3
  simp [wp, bk, e1, e2, hk, keysS, isKey, szOk_lit (show l.length ≤ 10000 by omega), e3']
end
end G
set_option maxHeartbeats 4000000
/-! E4: what is asked of nets. -/
namespace G
open L2
def lasLt (x y : La) : Bool := lexLt [x.a, x.lo, x.hi, x.c] [y.a, y.lo, y.hi, y.c]
@[simp] theorem nd0 {N : Net} : idxD N.d (.int 0) = some (.int N.many) := idx_0
@[simp] theorem nd1 {N : Net} : idxD N.d (.int 1) = some (.tup (N.bds.map bD)) := idx_1
@[simp] theorem nd2 {N : Net} : idxD N.d (.int 2) = some (.tup (N.las.map lD)) := idx_2
structure NetOk (N : Net) : Prop where
  m1 : 1 ≤ N.many
  m2 : N.many ≤ 16
  b : ∀ b ∈ N.bds, BdOk N.many b
  bl : N.bds.length ≤ 60
  bc : chainB pairLt N.bds = true
  l : ∀ x ∈ N.las, LaOk N.many x
  ll : N.las.length ≤ 5
  lc : chainB lasLt N.las = true
  rt : Rooted N.las
section
variable {n : Nat}
theorem are_lasts_ok (hn : 4 ≤ n) {m : Int} {l : List La} (h : ∀ b ∈ l, LaOk m b) (hl : l.length ≤ 5) (hc : chainB lasLt l = true) (hr : Rooted l) :
    Φ n k_are_lasts [.da .s (.int m), .da .s (.tup (l.map lD))] = .ok false (.bl true) [.da .s (.int m), .da .s (.tup (l.map lD))] := by
  obtain ⟨n, rfl⟩ := Nat.exists_eq_add_of_le' hn
  refine Eq.trans (phi_df fs_are_lasts rfl) ?_
  have e1 := clpF (l := l) (F := lD) (h := fun _ => .bl true) (ρ := [.da .s (.int m), .da .s (.tup (l.map lD)), .un]) (f := c_are_lasts_1 (GG (n + 3)))
    (fun b hb => by simp [cturn, wp, is_last_ok, h b hb])
  have h3 : (l.length : Int) ≤ 5 := by omega
  have h4 : l.length ≤ 10000 := by omega
  have h6 : ∀ l : List La, (List.map (fun _ => D.bl true) l) = (l.map fun _ => true).map D.bl := fun l => by simp
  have e2 := is_rising_ok (n := n + 3) (by omega) (F := lD) (r := lasLt) (fun a b => by simp [lD, D.lt, D.ints, lasLt]) h4
  simp [wp, bk, e1, is_sized_ok, gc_MOST_LASTS, h3, h4]
  rw [h6, b_all]
  simp [e2, hc, are_rooted_ok, hr, hl]
theorem is_net_ok (hn : 5 ≤ n) {N : Net} (h : NetOk N) : Φ n k_is_net [.da .s N.d] = .ok false (.bl true) [.da .s N.d] := by
  obtain ⟨n, rfl⟩ := Nat.exists_eq_add_of_le' hn
  refine Eq.trans (phi_df fs_is_net rfl) ?_
  have e1 := are_bounds_ok (n := n + 4) (by omega) h.b h.bl
  have e2 := are_lasts_ok (n := n + 4) (by omega) h.l h.ll h.lc h.rt
  simp [Net.d, is_sized_ok, is_within_ok, gc_MOST_EVENTS, h.m1, h.m2, e1, e2, h.bc]
theorem check_net_ok (hn : 6 ≤ n) {N : Net} (h : NetOk N) : Φ n k_check_net [.da .s N.d] = .ok false .non [.da .s N.d] := by
  obtain ⟨n, rfl⟩ := Nat.exists_eq_add_of_le' hn
  refine Eq.trans (phi_df fs_check_net rfl) ?_
  simp [is_net_ok, h]
def Net.ends (N : Net) : List Int := sortI (N.las.map La.c)
theorem sort_ints {l : List Int} (h : l.length < 64) : biD .sorted [.lst (l.map D.int)] = some (true, .lst ((sortI l).map D.int)) := by
  show (if decide ((l.map D.int).length < 64) = true then (sortD (l.map D.int)).map fun ys => (true, D.lst ys) else none) = _
  rw [if_pos (by rw [List.length_map]; exact decide_eq_true h)]
  unfold sortD
  rw [ints_map]
  rfl
theorem raw_ends_ok (hn : 1 ≤ n) {N : Net} (h : NetOk N) : Φ n k_raw_ends [.da .s N.d] = .ok false (.tup (N.ends.map D.int)) [.da .s N.d] := by
  obtain ⟨n, rfl⟩ := Nat.exists_eq_add_of_le' hn
  refine Eq.trans (phi_df fs_raw_ends rfl) ?_
  have e1 := clpF (l := N.las) (F := lD) (h := fun x => .int x.c) (ρ := [.da .s N.d, .un]) (f := c_raw_ends_1 (GG n)) (fun b hb => by simp [cturn, wp, lD])
  have h4 : N.las.length ≤ 10000 := by have := h.ll; omega
  have e2 := sort_ints (l := N.las.map La.c) (by have := h.ll; rw [List.length_map]; omega)
  rw [List.map_map] at e2
  simp [Net.d] at e1
  simp [Net.d, wp, bk, e1, h4]
  rw [show (fun x : La => D.int x.c) = D.int ∘ La.c from rfl, e2]
  simp [Net.ends]
theorem ends_of_ok (hn : 7 ≤ n) {N : Net} (h : NetOk N) : Φ n k_ends_of [.da .s N.d] = .ok false (.tup (N.ends.map D.int)) [.da .s N.d] := by
  obtain ⟨n, rfl⟩ := Nat.exists_eq_add_of_le' hn
  refine Eq.trans (phi_df fs_ends_of rfl) ?_
  simp [check_net_ok, raw_ends_ok, h]
/-- range(1, many) -/
def evs1 (m : Int) : List Int := (List.range (m - 1).toNat).map fun i : Nat => 1 + (i : Int)
theorem rngL_1 {m : Int} : rngL 1 m = (evs1 m).map D.int := by
  unfold rngL evs1
  rw [List.map_map]
  rfl
def Net.ours (N : Net) : List Int := (evs1 N.many).filter fun e => !decide (e ∈ N.ends)
theorem any_eqb {l : List Int} {x : Int} : ((l.map D.int).any fun y => D.eqb y (.int x)) = decide (x ∈ l) := by
  have := has_ints (l := l) (x := x)
  unfold hasD at this
  exact this
theorem flat_ints {l : List Int} : (l.map D.int).all D.flat = true := by
  rw [List.all_map]
  exact List.all_eq_true.mpr fun _ _ => rfl
theorem p_notin_t {l : List Int} {x : Int} : prim2 .notin (.int x) (.tup (l.map D.int)) = some (false, .bl (!decide (x ∈ l))) := by
  show (if ((D.int x).flat && (l.map D.int).all D.flat) = true then some (false, D.bl (!(l.map D.int).any fun y => D.eqb y (.int x))) else none) = _
  rw [flat_ints, any_eqb]
  rfl
theorem evs1_len {m : Int} : (evs1 m).length = (m - 1).toNat := by
  unfold evs1
  simp
theorem rng1_ok {N : Net} (h : NetOk N) : rngOk 1 N.many = true := rngOk_s (by omega) (by omega) (by have := h.m1; omega) (by have := h.m2; omega)
theorem raw_ours_ok (hn : 2 ≤ n) {N : Net} (h : NetOk N) : Φ n k_raw_ours [.da .s N.d] = .ok false (.tup (N.ours.map D.int)) [.da .s N.d] := by
  obtain ⟨n, rfl⟩ := Nat.exists_eq_add_of_le' hn
  refine Eq.trans (phi_df fs_raw_ours rfl) ?_
  have e1 := clpP (l := evs1 N.many) (F := D.int) (h := D.int) (p := fun e => !decide (e ∈ N.ends)) (ρ := [.da .s N.d, .da .s (.tup (N.ends.map D.int)), .un]) (f := c_raw_ours_1 (GG (n + 1))) (fun e he => by
    simp [cturn, wp, p_notin_t]
    by_cases c : e ∈ N.ends <;> simp [c])
  have h4 : (List.filter (fun e => !decide (e ∈ N.ends)) (evs1 N.many)).length ≤ 10000 := by
    have := List.length_filter_le (fun e => !decide (e ∈ N.ends)) (evs1 N.many)
    rw [evs1_len] at this
    have := h.m2
    omega
  simp [Net.d] at e1
  have e2 := raw_ends_ok (n := n + 1) (by omega) h
  have hr := rng1_ok h
  simp [Net.d] at e2
  simp [Net.d, wp, bk, e2, hr, rngL_1, e1, h4, Net.ours]
theorem ours_of_ok (hn : 7 ≤ n) {N : Net} (h : NetOk N) : Φ n k_ours_of [.da .s N.d] = .ok false (.tup (N.ours.map D.int)) [.da .s N.d] := by
  obtain ⟨n, rfl⟩ := Nat.exists_eq_add_of_le' hn
  refine Eq.trans (phi_df fs_ours_of rfl) ?_
  simp [check_net_ok, raw_ours_ok, h]
end
end G
set_option maxHeartbeats 4000000
/-! E5: lasts of ends, all bounds, horizons. -/
namespace G
open L2
theorem enumD_map {α : Type} {F : α → D} : ∀ {l : List α} {k : Nat}, enumD (l.map F) k = (l.zipIdx k).map fun p => D.tup [.int p.2, F p.1]
  | [], k => rfl
  | x :: l, k => by
    rw [List.map_cons, List.zipIdx_cons, List.map_cons, ← enumD_map]
    rfl
/-- the numbers of the lasts with an end -/
def Net.due (N : Net) (e : Int) : List Nat := (N.las.zipIdx.filter fun p => decide (p.1.c = e)).map (·.2)
def fst? (l : List Nat) : D := match l with
  | [] => .non
  | k :: _ => .int k
section
variable {n : Nat}
theorem raw_last_of_ok (hn : 1 ≤ n) {N : Net} (h : NetOk N) {e : Int} : Φ n k_raw_last_of [.da .s N.d, .da .s (.int e)] = .ok false (fst? (N.due e)) [.da .s N.d, .da .s (.int e)] := by
  obtain ⟨n, rfl⟩ := Nat.exists_eq_add_of_le' hn
  refine Eq.trans (phi_df fs_raw_last_of rfl) ?_
  have e1 := clpP (l := N.las.zipIdx) (F := fun p : La × Nat => D.tup [.int p.2, lD p.1]) (h := fun p => .int p.2) (p := fun p => decide (p.1.c = e)) (ρ := [.da .s N.d, .da .s (.int e), .un, .un, .un]) (f := c_raw_last_of_1 (GG n)) (fun p hp => by
    by_cases c : p.1.c = e <;> simp [cturn, wp, lD, c])
  have h4 : (List.filter (fun p : La × Nat => decide (p.1.c = e)) N.las.zipIdx).length ≤ 10000 := by
    have := List.length_filter_le (fun p : La × Nat => decide (p.1.c = e)) N.las.zipIdx
    rw [List.length_zipIdx] at this
    have := h.ll
    omega
  simp [Net.d] at e1
  simp [Net.d, wp, bk, enumD_map, e1, h4, Net.due]
  generalize List.filter (fun p : La × Nat => decide (p.1.c = e)) N.las.zipIdx = L
  cases L with
  | nil => simp [fst?]
  | cons p L => simp [fst?]
theorem last_of_ok (hn : 7 ≤ n) {N : Net} (h : NetOk N) {d : D} (hd : okI d = true) : Φ n k_last_of [.da .s N.d, .da .s d] = match d with
    | .int e => (match N.due e with
      | [] => .ex ⟨c_NoEnd, []⟩ [.da .s N.d, .da .s d]
      | k :: _ => .ok false (.int k) [.da .s N.d, .da .s d])
    | _ => .ex ⟨c_NoEnd, []⟩ [.da .s N.d, .da .s d] := by
  obtain ⟨n, rfl⟩ := Nat.exists_eq_add_of_le' hn
  refine Eq.trans (phi_df fs_last_of rfl) ?_
  cases d with
  | int e =>
    simp [check_net_ok, raw_last_of_ok, is_int_ok, h]
    cases hq : N.due e <;> simp [fst?, raw_last_of_ok, h, hq]
  | _ => simp [check_net_ok, is_int_ok, h, hd, isInt]
/-- all bounds of a net -/
def Net.lb (l : La) : List Bd := [⟨l.a, l.c, l.hi⟩, ⟨l.c, l.a, 0 - l.lo⟩]
def Net.all (N : Net) : List Bd := N.bds ++ N.las.flatMap Net.lb ++ (evs1 N.many).map fun e => ⟨e, 0, 0⟩
abbrev abS (N : Net) (fd : List Bd) (e2 e3 e4 e5 : En) : List En := [.da .s N.d, .da .o (.lst (fd.map bD)), e2, e3, e4, e5, .un]
theorem ab_turn {N : Net} {fd : List Bd} {e2 e3 e4 e5 : En} {l : La} (f2 : Fr e2) (f3 : Fr e3) (f4 : Fr e4) (f5 : Fr e5) (hl : fd.length ≤ 5000) :
    f_raw_all_bounds_2 (GG n) (lD l) (abS N fd e2 e3 e4 e5) = .ok .nx (abS N (fd ++ Net.lb l) (.da .s (.int l.a)) (.da .s (.int l.lo)) (.da .s (.int l.hi)) (.da .s (.int l.c))) := by
  have h1 : szOk (fd.length + 2) = true := szOk_lit (by omega)
  simp [fturn, lD, stE_fr, f2, f3, f4, f5, h1, Net.lb, bD]
theorem flat_len {l : List La} : (l.flatMap Net.lb).length = 2 * l.length := by
  induction l with
  | nil => rfl
  | cons x l ih => rw [List.flatMap_cons, List.length_append, ih]; simp [Net.lb]; omega
theorem ab_loop {N : Net} (h : NetOk N) : ∃ fd e2 e3 e4 e5, fd = N.bds ++ N.las.flatMap Net.lb ∧ flp (f_raw_all_bounds_2 (GG n)) (N.las.map lD) (abS N N.bds .un .un .un .un) = .ok .nx (abS N fd e2 e3 e4 e5) := by
  obtain ⟨ρ', e, e2, e3, e4, e5, rfl, _⟩ := flp_inv (f := f_raw_all_bounds_2 (GG n)) (xs := N.las.map lD) (ρ := abS N N.bds .un .un .un .un)
    (fun i ρ => ∃ e2 e3 e4 e5, ρ = abS N (N.bds ++ (N.las.take i).flatMap Net.lb) e2 e3 e4 e5 ∧ Fr e2 ∧ Fr e3 ∧ Fr e4 ∧ Fr e5) ⟨_, _, _, _, by simp, .un, .un, .un, .un⟩ (by
    rintro i x ρ hx ⟨e2, e3, e4, e5, rfl, f2, f3, f4, f5⟩
    rw [List.getElem?_map] at hx
    obtain ⟨la, hla, rfl⟩ : ∃ la, N.las[i]? = some la ∧ lD la = x := by
      cases q : N.las[i]? with
      | none => rw [q] at hx; cases hx
      | some la => rw [q] at hx; exact ⟨la, rfl, Option.some.inj hx⟩
    refine ⟨_, .inl (ab_turn f2 f3 f4 f5 ?_), .da .s (.int la.a), .da .s (.int la.lo), .da .s (.int la.hi), .da .s (.int la.c), ?_, .s, .s, .s, .s⟩
    · rw [List.length_append, flat_len, List.length_take]
      have := h.bl
      have := h.ll
      omega
    · have ht : N.las.take (i + 1) = N.las.take i ++ [la] := by
        rw [List.take_add_one, hla]; rfl
      rw [ht, List.flatMap_append, List.append_assoc]
      simp)
  rw [List.length_map, List.take_length] at e
  exact ⟨_, e2, e3, e4, e5, rfl, e⟩
theorem raw_all_bounds_ok (hn : 1 ≤ n) {N : Net} (h : NetOk N) : Φ n k_raw_all_bounds [.da .s N.d] = .ok false (.tup (N.all.map bD)) [.da .s N.d] := by
  obtain ⟨n, rfl⟩ := Nat.exists_eq_add_of_le' hn
  refine Eq.trans (phi_df fs_raw_all_bounds rfl) ?_
  obtain ⟨fd, e2, e3, e4, e5, hfd, e⟩ := ab_loop (n := n) h
  have e1 := clpF (l := evs1 N.many) (F := D.int) (h := fun e => bD ⟨e, 0, 0⟩) (ρ := abS N fd e2 e3 e4 e5) (f := c_raw_all_bounds_1 (GG n)) (fun e he => by simp [cturn, wp, bD])
  have h1 : (evs1 N.many).length ≤ 10000 := by
    rw [evs1_len]
    have := h.m2
    omega
  have h3 : fd.length + (evs1 N.many).length ≤ 10000 := by
    rw [hfd, List.length_append, evs1_len, flat_len]
    have := h.m2
    have := h.bl
    have := h.ll
    omega
  have hr := rng1_ok h
  have hr2 : rngOk 1 N.many = true := hr
  simp [e, hr2, rngL_1, e1, wp, bk, h1, h3]
  rw [hfd]
  unfold Net.all
  simp
theorem all_bounds_ok (hn : 7 ≤ n) {N : Net} (h : NetOk N) : Φ n k_all_bounds [.da .s N.d] = .ok false (.tup (N.all.map bD)) [.da .s N.d] := by
  obtain ⟨n, rfl⟩ := Nat.exists_eq_add_of_le' hn
  refine Eq.trans (phi_df fs_all_bounds rfl) ?_
  simp [check_net_ok, raw_all_bounds_ok, h]
def absI (i : Int) : Int := if i < 0 then -i else i
def Net.hor (N : Net) : Int := N.many + 1 + (N.bds.map fun b => absI b.w).sum + (N.las.map La.hi).sum
theorem raw_horizon_ok (hn : 1 ≤ n) {N : Net} (h : NetOk N) : Φ n k_raw_horizon [.da .s N.d] = .ok false (.int N.hor) [.da .s N.d] := by
  obtain ⟨n, rfl⟩ := Nat.exists_eq_add_of_le' hn
  refine Eq.trans (phi_df fs_raw_horizon rfl) ?_
  have e1 := clpF (l := N.bds) (F := bD) (h := fun b => .int (absI b.w)) (ρ := [.da .s N.d, .un, .un]) (f := c_raw_horizon_1 (GG n)) (fun b hb => by simp [cturn, wp, bD, absI])
  have e2 := clpF (l := N.las) (F := lD) (h := fun b => .int b.hi) (ρ := [.da .s N.d, .un, .un]) (f := c_raw_horizon_2 (GG n)) (fun b hb => by simp [cturn, wp, lD])
  have h1 : N.bds.length ≤ 10000 := by have := h.bl; omega
  have h2 : N.las.length ≤ 10000 := by have := h.ll; omega
  simp [wp, bk, e1, e2, h1, h2, b_sumF, Net.hor]
theorem horizon_ok (hn : 7 ≤ n) {N : Net} (h : NetOk N) : Φ n k_horizon [.da .s N.d] = .ok false (.int N.hor) [.da .s N.d] := by
  obtain ⟨n, rfl⟩ := Nat.exists_eq_add_of_le' hn
  refine Eq.trans (phi_df fs_horizon rfl) ?_
  simp [check_net_ok, raw_horizon_ok, h]
end
end G
set_option maxHeartbeats 4000000
/-! E6: sorting tuples of ints. -/
namespace G
open L2
theorem code_lex {B : Int} (hB : 0 < B) : ∀ {x y : List Int}, x.length = y.length → TS.Bd B x → TS.Bd B y → TS.code B x ≤ TS.code B y → x ≠ y → lexLt x y = true
  | [], [], _, _, _, _, h => absurd rfl h
  | [], _ :: _, h, _, _, _, _ => nomatch h
  | _ :: _, [], h, _, _, _, _ => nomatch h
  | a :: x, b :: y, hl, hx, hy, h, ne => by
    have hl' : x.length = y.length := Nat.succ.inj hl
    unfold lexLt
    by_cases e : a = b
    · rw [if_pos e]
      refine code_lex hB hl' hx.tail hy.tail ?_ fun q => ne (by rw [e, q])
      have h : a * B ^ x.length + TS.code B x ≤ b * B ^ y.length + TS.code B y := h
      rw [e, hl'] at h
      omega
    · rw [if_neg e]
      refine decide_eq_true ?_
      rcases Int.lt_trichotomy a b with q | q | q
      · exact q
      · exact absurd q e
      · have := TS.code_lt hl'.symm hy.tail hx.tail q
        omega
/-- sorted by a code -/
def insK {α : Type} (f : α → List Int) (x : α) : List α → List α
  | [] => [x]
  | y :: ys => if TS.code bd40 (f x) ≤ TS.code bd40 (f y) then x :: y :: ys else y :: insK f x ys
def sortK {α : Type} (f : α → List Int) : List α → List α
  | [] => []
  | x :: xs => insK f x (sortK f xs)
theorem ins_map {α : Type} {f : α → List Int} {x : α} : ∀ {l : List α}, insL (f x) (l.map f) = (insK f x l).map f
  | [] => rfl
  | y :: l => by
    rw [List.map_cons]
    unfold insL insK
    by_cases h : TS.code bd40 (f x) ≤ TS.code bd40 (f y)
    · rw [if_pos h, if_pos h]; rfl
    · rw [if_neg h, if_neg h, ins_map]; rfl
theorem sort_map {α : Type} {f : α → List Int} : ∀ {l : List α}, sortL (l.map f) = (sortK f l).map f
  | [] => rfl
  | x :: l => by
    show insL (f x) (sortL (l.map f)) = _
    rw [sort_map, ins_map]
    rfl
theorem ins_perm {α : Type} {f : α → List Int} {x : α} : ∀ {l : List α}, (insK f x l).Perm (x :: l)
  | [] => .refl _
  | y :: l => by
    unfold insK
    split
    · exact .refl _
    · exact (List.Perm.cons y ins_perm).trans (List.Perm.swap x y l)
theorem sort_perm {α : Type} {f : α → List Int} : ∀ {l : List α}, (sortK f l).Perm l
  | [] => .refl _
  | x :: l => ins_perm.trans (List.Perm.cons x sort_perm)
theorem ins_sorted {α : Type} {f : α → List Int} {x : α} : ∀ {l : List α}, l.Pairwise (fun a b => TS.code bd40 (f a) ≤ TS.code bd40 (f b)) → (insK f x l).Pairwise (fun a b => TS.code bd40 (f a) ≤ TS.code bd40 (f b))
  | [], _ => List.pairwise_singleton _ _
  | y :: l, h => by
    unfold insK
    have h' := List.pairwise_cons.mp h
    split
    · rename_i c
      refine List.pairwise_cons.mpr ⟨fun z hz => ?_, h⟩
      rcases List.mem_cons.mp hz with rfl | hz
      · exact c
      · exact Int.le_trans c (h'.1 z hz)
    · rename_i c
      refine List.pairwise_cons.mpr ⟨fun z hz => ?_, ins_sorted h'.2⟩
      rcases List.mem_cons.mp (ins_perm.mem_iff.mp hz) with rfl | hz
      · omega
      · exact h'.1 z hz
theorem sort_sorted {α : Type} {f : α → List Int} : ∀ {l : List α}, (sortK f l).Pairwise (fun a b => TS.code bd40 (f a) ≤ TS.code bd40 (f b))
  | [] => List.Pairwise.nil
  | x :: l => ins_sorted sort_sorted
theorem chain_of {α : Type} {r : α → α → Bool} : ∀ {l : List α}, l.Pairwise (fun a b => r a b = true) → chainB r l = true
  | [], _ => rfl
  | [_], _ => rfl
  | x :: y :: l, h => by
    obtain ⟨h1, h2⟩ := List.pairwise_cons.mp h
    show (r x y && chainB r (y :: l)) = true
    rw [h1 y List.mem_cons_self, chain_of h2]
    rfl
/-- sorted, unlike: ascending -/
theorem sort_chain {α : Type} {f : α → List Int} {d : Nat} {l : List α} (hd : ∀ x ∈ l, (f x).length = d) (hb : ∀ x ∈ l, TS.Bd bd40 (f x)) (hn : (l.map f).Nodup) : chainB (fun a b => lexLt (f a) (f b)) (sortK f l) = true := by
  refine chain_of ?_
  have nd : ((sortK f l).map f).Nodup := (sort_perm.map f).nodup_iff.mpr hn
  have nd2 : (sortK f l).Pairwise (fun a b => f a ≠ f b) := List.pairwise_map.mp nd
  have s := (List.pairwise_and_iff (R := fun a b => TS.code bd40 (f a) ≤ TS.code bd40 (f b)) (S := fun a b => f a ≠ f b)).mpr ⟨sort_sorted, nd2⟩
  refine List.Pairwise.imp_of_mem (fun {a b} ha hb' h => ?_) s
  have ma := sort_perm.mem_iff.mp ha
  have mb := sort_perm.mem_iff.mp hb'
  exact code_lex (by unfold bd40; decide) ((hd a ma).trans (hd b mb).symm) (hb a ma) (hb b mb) h.1 h.2
theorem tupsI_map {α : Type} {f : α → List Int} : ∀ {l : List α}, D.tupsI (l.map fun x => D.tup ((f x).map D.int)) = some (l.map f)
  | [] => rfl
  | x :: l => by
    rw [List.map_cons]
    unfold D.tupsI
    rw [ints_map, tupsI_map]
    rfl
theorem tupsOk_of {α : Type} {f : α → List Int} {d : Nat} {l : List α} (h1 : 1 ≤ d) (hd : ∀ x ∈ l, (f x).length = d) (hb : ∀ x ∈ l, TS.Bd bd40 (f x)) : tupsOk (l.map f) = true := by
  cases l with
  | nil => rfl
  | cons x l =>
    show (decide (1 ≤ (f x).length) && ((x :: l).map f).all fun m => decide (m.length = (f x).length) && m.all fun i => decide (0 ≤ i) && decide (i < bd40)) = true
    have e0 := hd x List.mem_cons_self
    rw [e0, decide_eq_true h1, Bool.true_and, List.all_map, List.all_eq_true]
    intro y hy
    show (decide ((f y).length = d) && (f y).all fun i => decide (0 ≤ i) && decide (i < bd40)) = true
    rw [decide_eq_true (hd y hy), Bool.true_and, List.all_eq_true]
    intro i hi
    obtain ⟨q1, q2⟩ := hb y hy i hi
    simp [q1, q2]
/-- sorted(a list of tuples of ints) -/
theorem sorted_tupsK {α : Type} {f : α → List Int} {d : Nat} {l : List α} (h1 : 1 ≤ d) (hl : l.length < 64) (hd : ∀ x ∈ l, (f x).length = d) (hb : ∀ x ∈ l, TS.Bd bd40 (f x)) :
    biD .sorted [.lst (l.map fun x => D.tup ((f x).map D.int))] = some (true, .lst ((sortK f l).map fun x => D.tup ((f x).map D.int))) := by
  show (if decide ((l.map fun x => D.tup ((f x).map D.int)).length < 64) = true then (sortD (l.map fun x => D.tup ((f x).map D.int))).map fun ys => (true, D.lst ys) else none) = _
  rw [if_pos (by rw [List.length_map]; exact decide_eq_true hl)]
  cases l with
  | nil => rfl
  | cons x l =>
    have e1 : D.ints ((x :: l).map fun x => D.tup ((f x).map D.int)) = none := rfl
    have e2 := tupsI_map (f := f) (l := x :: l)
    have e3 := tupsOk_of h1 hd hb
    have e4 : sortD ((x :: l).map fun x => D.tup ((f x).map D.int)) = some ((sortL ((x :: l).map f)).map fun is => D.tup (is.map D.int)) := by
      unfold sortD
      rw [e1, e2]
      show (if tupsOk ((x :: l).map f) = true then some ((sortL ((x :: l).map f)).map fun is => D.tup (is.map D.int)) else none) = _
      rw [if_pos e3]
    rw [e4, sort_map, List.map_map]
    rfl
/-- sorted(a dict of tuples of ints) -/
theorem sorted_keys {α : Type} {f : α → List Int} {d : Nat} {l : List α} {vs : List D} (h1 : 1 ≤ d) (hl : l.length < 64) (hd : ∀ x ∈ l, (f x).length = d) (hb : ∀ x ∈ l, TS.Bd bd40 (f x)) :
    biD .sorted [.dct true (l.map fun x => D.tup ((f x).map D.int)) vs] = some (true, .lst ((sortK f l).map fun x => D.tup ((f x).map D.int))) := by
  show (if decide ((l.map fun x => D.tup ((f x).map D.int)).length < 64) = true then (match D.tupsI (l.map fun x => D.tup ((f x).map D.int)) with
    | some ls => if tupsOk ls = true then some (true, D.lst ((sortL ls).map fun is => D.tup (is.map D.int))) else none
    | none => none) else none) = _
  rw [if_pos (by rw [List.length_map]; exact decide_eq_true hl), tupsI_map]
  dsimp only
  rw [if_pos (tupsOk_of h1 hd hb), sort_map, List.map_map]
  rfl
theorem eraseIdx_perm {α : Type} : ∀ {l : List α} {i : Nat} (h : i < l.length), (l[i] :: l.eraseIdx i).Perm l
  | x :: l, 0, _ => .refl _
  | x :: l, i + 1, h => by
    rw [List.getElem_cons_succ, List.eraseIdx_cons_succ]
    exact (List.Perm.swap x _ _).trans (List.Perm.cons x (eraseIdx_perm (Nat.lt_of_succ_lt_succ h)))
end G
set_option maxHeartbeats 4000000
/-! E7: the law's draws. -/
namespace G
open L2
def tkR (L : List Int) (m : Int) : Int := match L.getLast? with
  | none => 0
  | some x => x % m
def tkL (L : List Int) : List Int := L.dropLast
theorem tkR_0 {L : List Int} {m : Int} (h : 0 < m) : 0 ≤ tkR L m := by
  unfold tkR
  split
  · exact Int.le_refl _
  · exact Int.emod_nonneg _ (by omega)
theorem tkR_lt {L : List Int} {m : Int} (h : 0 < m) : tkR L m < m := by
  unfold tkR
  split
  · exact h
  · exact Int.emod_lt_of_pos _ h
section
variable {n : Nat}
theorem take_ok (hn : 1 ≤ n) {L : List Int} {m : Int} (h : 0 < m) : Φ n k__law_take [.da .l (.lst (L.map D.int)), .da .s (.int m)] = .ok false (.int (tkR L m)) [.da .l (.lst ((tkL L).map D.int)), .da .s (.int m)] := by
  obtain ⟨n, rfl⟩ := Nat.exists_eq_add_of_le' hn
  refine Eq.trans (phi_df fs__law_take rfl) ?_
  rcases List.eq_nil_or_concat L with rfl | ⟨L, x, rfl⟩
  · simp [tkR, tkL]
  · simp [tkR, tkL, p_mod h]
theorem idx_ints {l : List Int} {j : Int} (h0 : 0 ≤ j) (h1 : j < l.length) : ∃ v, l[j.toNat]? = some v ∧ idxD (.lst (l.map D.int)) (.int j) = some (.int v) := by
  have hj : j.toNat < l.length := by omega
  refine ⟨l[j.toNat], List.getElem?_eq_getElem hj, ?_⟩
  have : idxD (.lst (l.map D.int)) (.int (j.toNat : Int)) = some (.int l[j.toNat]) := idx_natl (by rw [List.getElem?_map, List.getElem?_eq_getElem hj]; rfl)
  rwa [Int.toNat_of_nonneg h0] at this
theorem p_mulr {i j : Int} (h : small64 j = true) : prim2 .mul (.int i) (.int j) = some (false, .int (i * j)) := p_mul (.inr h)
theorem p_mA {i : Int} : prim2 .mul (.int i) (.int 48271) = some (false, .int (i * 48271)) := p_mulr rfl
theorem p_mB {i : Int} : prim2 .mul (.int i) (.int 69621) = some (false, .int (i * 69621)) := p_mulr rfl
theorem p_mC {i : Int} : prim2 .mul (.int i) (.int 16807) = some (false, .int (i * 16807)) := p_mulr rfl
theorem p_fdv7 {i : Int} : prim2 .fdv (.int i) (.int 7) = some (false, .int (i / 7)) := p_fdv (by decide) (by decide)
theorem p_fdv1009 {i : Int} : prim2 .fdv (.int i) (.int 1009) = some (false, .int (i / 1009)) := p_fdv (by decide) (by decide)
theorem p_fdv3 {i : Int} : prim2 .fdv (.int i) (.int 3) = some (false, .int (i / 3)) := p_fdv (by decide) (by decide)
theorem p_mod1009 {i : Int} : prim2 .mod (.int i) (.int 1009) = some (false, .int (i % 1009)) := p_mod (by decide)
theorem p_modM {i : Int} : prim2 .mod (.int i) (.int 2147483647) = some (false, .int (i % 2147483647)) := p_mod (by decide)
abbrev drS (ns : List Int) (m : Int) (L : List Int) (b : Int) (e4 e5 e6 : En) : List En := [.da .s (.lst (ns.map D.int)), .da .s (.int m), .da .o (.lst (L.map D.int)), .da .s (.int b), e4, e5, e6]
theorem dr_turn2 {ns L : List Int} {m b k : Int} {e4 e5 e6 : En} (f4 : Fr e4) (hl : L.length ≤ 5000) :
    ∃ L' b', f__law_draws_2 (GG n) (.int k) (drS ns m L b e4 e5 e6) = .ok .nx (drS ns m L' b' (.da .s (.int k)) e5 e6) ∧ L'.length ≤ L.length + 1 := by
  have h1 : szOk (L.length + 1) = true := szOk_lit (by omega)
  by_cases hb : 0 < b
  · exact ⟨L ++ [b % 1009], b / 1009, by simp [fturn, stE_fr, f4, hb, p_mod1009, p_fdv1009, h1], by simp⟩
  · exact ⟨L, b, by simp [fturn, stE_fr, f4, hb], by omega⟩
theorem dr_turn1 {ns L : List Int} {m b k sd : Int} {e4 e6 : En} (f4 : Fr e4) (f6 : Fr e6) (hl : L.length ≤ 5000) (hk : 0 ≤ k) :
    ∃ L' sd' c', f__law_draws_1 (GG n) (.int k) (drS ns m L b e4 (.da .s (.int sd)) e6) = .ok .nx (drS ns m L' b (.da .s (.int k)) (.da .s (.int sd')) (.da .s (.int c'))) ∧ L'.length ≤ L.length + 1 := by
  have h1 : szOk (L.length + 1) = true := szOk_lit (by omega)
  by_cases hb : ns = []
  · subst hb
    refine ⟨L ++ [_], _, _, by simp [fturn, stE_fr, f4, f6, p_mA, p_mB, p_mC, p_modM, p_fdv7, p_mod1009, h1]; exact ⟨rfl, rfl, rfl⟩, by simp⟩
  · have hlen : 0 < (ns.length : Int) := by
      have := List.length_pos_iff.mpr hb
      omega
    obtain ⟨v, _, hv⟩ := idx_ints (l := ns) (j := (k + 1) % ns.length) (Int.emod_nonneg _ (by omega)) (Int.emod_lt_of_pos _ hlen)
    refine ⟨L ++ [_], _, _, by simp [fturn, stE_fr, f4, f6, hb, p_mod hlen, hv, p_mA, p_mB, p_mC, p_modM, p_fdv7, p_mod1009, h1]; exact ⟨rfl, rfl, rfl⟩, by simp⟩
/-- the draws of a law: sd its own number -/
def dfDraws (sd : Int) : Df := ⟨2, 7, (.cons (.asg (.v 2) (.lst .nil))
 (.cons (.asg (.v 3) (.ife (.tru (.var 0)) (.idx (.var 0) (.int 0)) (.int 0)))
 (.cons (.ife (.val (.op2 .lt (.var 3) (.int 0))) (.cons (.asg (.v 3) (.op1 .neg (.var 3)))
 .nil) .nil)
 (.cons (.ife (.val (.op2 .ge (.var 3) (.int 1000000000000000000))) (.cons (.for_ (.v 4) (.rng1 (.var 1)) b__law_draws_2)
 .nil) .nil)
 (.cons (.asg (.v 5) (.int sd))
 (.cons (.for_ (.v 4) (.rng1 (.op2 .sub (.var 1) (.bi .len (.cons (.var 2) .nil)))) b__law_draws_1)
 (.cons (.ret (.var 2))
 .nil)))))))⟩
theorem rng0_get {m : Int} {i : Nat} {x : D} (h : (rngL 0 m)[i]? = some x) : x = .int i := by
  obtain ⟨e, _⟩ := rngL_get h
  rw [e, Int.zero_add]
theorem dr_loop2 {ns L : List Int} {m b : Int} (h0 : 0 ≤ m) (hm : m ≤ 1000) (hL : L.length = 0) :
    ∃ L' b' e4, flp (f__law_draws_2 (GG n)) (rngL 0 m) (drS ns m L b .un .un .un) = .ok .nx (drS ns m L' b' e4 .un .un) ∧ L'.length ≤ m.toNat ∧ Fr e4 := by
  obtain ⟨ρ', e, L', b', e4, rfl, hl, f4⟩ := flp_inv (f := f__law_draws_2 (GG n)) (xs := rngL 0 m) (ρ := drS ns m L b .un .un .un)
    (fun i ρ => ∃ L' b' e4, ρ = drS ns m L' b' e4 .un .un ∧ (L'.length ≤ i ∧ i ≤ m.toNat) ∧ Fr e4) ⟨_, _, _, rfl, ⟨by omega, Nat.zero_le _⟩, .un⟩ (by
    rintro i x ρ hx ⟨L', b', e4, rfl, ⟨hl, hi⟩, f4⟩
    have hx2 := (rngL_get hx).2
    rw [rng0_get hx]
    obtain ⟨L2, b2, e, hl2⟩ := dr_turn2 (n := n) (ns := ns) (L := L') (m := m) (b := b') (k := i) (e5 := .un) (e6 := .un) f4 (by omega)
    exact ⟨_, .inl e, L2, b2, _, rfl, ⟨by omega, by omega⟩, .s⟩)
  exact ⟨L', b', e4, e, by omega, f4⟩
theorem dr_loop1 {ns L : List Int} {m q b sd : Int} {e4 : En} (h0 : 0 ≤ q) (hm : q ≤ 1000) (hL : L.length ≤ 1000) (f4 : Fr e4) :
    ∃ L' e4' e5' e6', flp (f__law_draws_1 (GG n)) (rngL 0 q) (drS ns m L b e4 (.da .s (.int sd)) .un) = .ok .nx (drS ns m L' b e4' e5' e6') := by
  obtain ⟨ρ', e, L', sd', e4', e6', rfl, hl, f4', f6'⟩ := flp_inv (f := f__law_draws_1 (GG n)) (xs := rngL 0 q) (ρ := drS ns m L b e4 (.da .s (.int sd)) .un)
    (fun i ρ => ∃ L' sd' e4 e6, ρ = drS ns m L' b e4 (.da .s (.int sd')) e6 ∧ (L'.length ≤ 1000 + i ∧ i ≤ q.toNat) ∧ Fr e4 ∧ Fr e6) ⟨_, _, _, _, rfl, ⟨by omega, Nat.zero_le _⟩, f4, .un⟩ (by
    rintro i x ρ hx ⟨L', sd', e4, e6, rfl, ⟨hl, hi⟩, f4, f6⟩
    have hx2 := (rngL_get hx).2
    rw [rng0_get hx]
    obtain ⟨L2, s2, c2, e, hl2⟩ := dr_turn1 (n := n) (ns := ns) (L := L') (m := m) (b := b) (k := i) (sd := sd') f4 f6 (by omega) (by omega)
    exact ⟨_, .inl e, L2, s2, _, _, rfl, ⟨by omega, by omega⟩, .s, .s⟩)
  exact ⟨L', _, _, _, e⟩
theorem dfD_ok {ns : List Int} {m sd : Int} (h0 : 0 ≤ m) (hm : m ≤ 1000) :
    ∃ L : List Int, runD (GG n) (dfDraws sd) [.da .s (.lst (ns.map D.int)), .da .s (.int m)] = .ok true (.lst (L.map D.int)) [.da .s (.lst (ns.map D.int)), .da .s (.int m)] := by
  unfold dfDraws
  rw [runD_eq (by rfl)]
  have r0 : rngOk 0 m = true := rngOk_s (by omega) (by omega) (by omega) (by omega)
  have big : ∃ b : Int, (if ns = [] then (0 : Int) else (ns.headD 0)) = b := ⟨_, rfl⟩
  have fin : ∀ (L : List Int) (b : Int) (e4 : En), L.length ≤ m.toNat → Fr e4 → ∃ L' : List Int, endD 2 (ess (GG n) (.cons (.asg (.v 5) (.int sd))
      (.cons (.for_ (.v 4) (.rng1 (.op2 .sub (.var 1) (.bi .len (.cons (.var 2) .nil)))) b__law_draws_1) (.cons (.ret (.var 2)) .nil))) (drS ns m L b e4 .un .un)) = .ok true (.lst (L'.map D.int)) [.da .s (.lst (ns.map D.int)), .da .s (.int m)] := by
    intro L b e4 hL f4
    obtain ⟨L', a1, a2, a3, e⟩ := dr_loop1 (n := n) (ns := ns) (L := L) (m := m) (q := m - L.length) (b := b) (sd := sd) (e4 := e4) (by omega) (by omega) (by omega) f4
    have r1 : rngOk 0 (m - L.length) = true := rngOk_s (by omega) (by omega) (by omega) (by omega)
    refine ⟨L', ?_⟩
    simp [r1, e]
  have mid : ∀ b : Int, ∃ L' : List Int, endD 2 (ess (GG n) (.cons (.ife (.val (.op2 .ge (.var 3) (.int 1000000000000000000))) (.cons (.for_ (.v 4) (.rng1 (.var 1)) b__law_draws_2) .nil) .nil) (.cons (.asg (.v 5) (.int sd))
      (.cons (.for_ (.v 4) (.rng1 (.op2 .sub (.var 1) (.bi .len (.cons (.var 2) .nil)))) b__law_draws_1) (.cons (.ret (.var 2)) .nil)))) (drS ns m [] b .un .un .un)) = .ok true (.lst (L'.map D.int)) [.da .s (.lst (ns.map D.int)), .da .s (.int m)] := by
    intro b
    by_cases hb : (1000000000000000000 : Int) ≤ b
    · obtain ⟨L1, b1, e4, e, hl, f4⟩ := dr_loop2 (n := n) (ns := ns) (L := []) (m := m) (b := b) h0 hm rfl
      obtain ⟨L', h'⟩ := fin L1 b1 e4 hl f4
      have e' : flp (f__law_draws_2 (GG n)) (rngL 0 m) [.da .s (.lst (ns.map D.int)), .da .s (.int m), .da .o (.lst []), .da .s (.int b), .un, .un, .un] = _ := e
      refine ⟨L', ?_⟩
      refine Eq.trans ?_ h'
      simp [hb, r0, e, e']
      try rfl
    · obtain ⟨L', h'⟩ := fin [] b .un (Nat.zero_le _) .un
      refine ⟨L', ?_⟩
      refine Eq.trans ?_ h'
      simp [hb]
      try rfl
  cases ns with
  | nil =>
    obtain ⟨L', h'⟩ := mid 0
    refine ⟨L', ?_⟩
    refine Eq.trans ?_ h'
    simp
    try rfl
  | cons x ns =>
    by_cases hx : x < 0
    · obtain ⟨L', h'⟩ := mid (-x)
      refine ⟨L', ?_⟩
      refine Eq.trans ?_ h'
      simp [hx]
      try rfl
    · obtain ⟨L', h'⟩ := mid x
      refine ⟨L', ?_⟩
      refine Eq.trans ?_ h'
      simp [hx]
      try rfl
end
end G
set_option maxHeartbeats 4000000
/-! E8: orders and lasts drawn. -/
namespace G
open L2
theorem eraseIdx_map' {α β : Type} {f : α → β} : ∀ {l : List α} {i : Nat}, (l.map f).eraseIdx i = (l.eraseIdx i).map f
  | [], _ => rfl
  | x :: l, 0 => rfl
  | x :: l, i + 1 => by
    rw [List.map_cons, List.eraseIdx_cons_succ, List.eraseIdx_cons_succ, List.map_cons, eraseIdx_map']
theorem popI_o {ρ : List En} {i : Nat} {l : List Int} {k : Int} (hg : gt ρ i = .da .o (.lst (l.map D.int))) (h0 : 0 ≤ k) (h1 : k < l.length) :
    ∃ (hk : k.toNat < l.length), popI i k ρ = .ok (.da false (.int l[k.toNat])) (ρ.set i (.da .o (.lst ((l.eraseIdx k.toNat).map D.int)))) := by
  have hk : k.toNat < l.length := by omega
  refine ⟨hk, ?_⟩
  have e1 : ixN (l.map D.int).length k = some k.toNat := by
    unfold ixN
    rw [if_pos h0, List.length_map, if_pos h1]
  unfold popI
  rw [hg]
  dsimp only
  rw [e1]
  dsimp only
  rw [List.getElem?_map, List.getElem?_eq_getElem hk]
  dsimp only [Option.map_some]
  rw [eraseIdx_map']
theorem small63_of {k : Int} (h0 : 0 ≤ k) (h1 : k < 1000000) : small63 k = true := by
  unfold small63
  rw [decide_eq_true_eq]
  omega
section
variable {n : Nat}
abbrev orS (L : List Int) (m : Int) (l o : List Int) (e4 : En) : List En := [.da .l (.lst (L.map D.int)), .da .s (.int m), .da .o (.lst (l.map D.int)), .da .o (.lst (o.map D.int)), e4]
theorem or_turn (hn : 1 ≤ n) {L l o : List Int} {m k : Int} {e4 : En} (f4 : Fr e4) (hl : 0 < l.length) (hl2 : l.length ≤ 1000) (ho : o.length ≤ 1000) :
    ∃ L' l' x, f__law_order_1 (GG n) (.int k) (orS L m l o e4) = .ok .nx (orS L' m l' (o ++ [x]) (.da .s (.int k))) ∧ (x :: l').Perm l := by
  have hm : (0 : Int) < l.length := by omega
  obtain ⟨hk, e⟩ := popI_o (ρ := orS (tkL L) m l o (.da .s (.int k))) (i := 2) (l := l) (k := tkR L l.length) rfl (tkR_0 hm) (tkR_lt hm)
  have h1 : szOk (o.length + 1) = true := szOk_lit (by omega)
  have h2 : small63 (tkR L l.length) = true := small63_of (tkR_0 hm) (by have := tkR_lt (L := L) hm; omega)
  refine ⟨tkL L, _, _, ?_, eraseIdx_perm hk⟩
  have et := take_ok hn (L := L) hm
  simp [fturn, stE_fr, f4, et, h2, e, h1]
theorem or_loop (hn : 1 ≤ n) {L : List Int} {m : Int} (h0 : 1 ≤ m) (hm : m ≤ 100) :
    ∃ L' o e4, flp (f__law_order_1 (GG n)) (rngL 0 (m - 1)) (orS L m (evs1 m) [0] .un) = .ok .nx (orS L' m [] o e4) ∧ o.Perm (0 :: evs1 m) ∧ o[0]? = some 0 := by
  obtain ⟨ρ', e, L', l, o, e4, rfl, ⟨h1, h2, h3, h4, h5⟩, f4⟩ := flp_inv (f := f__law_order_1 (GG n)) (xs := rngL 0 (m - 1)) (ρ := orS L m (evs1 m) [0] .un)
    (fun i ρ => ∃ L' l o e4, ρ = orS L' m l o e4 ∧ (l.length + i = (m - 1).toNat ∧ o.length = i + 1 ∧ (l ++ o).Perm (0 :: evs1 m) ∧ o[0]? = some 0 ∧ i ≤ (m - 1).toNat) ∧ Fr e4)
    ⟨_, _, _, _, rfl, ⟨by rw [evs1_len]; rfl, rfl, List.perm_append_comm, rfl, Nat.zero_le _⟩, .un⟩ (by
    rintro i x ρ hx ⟨L', l, o, e4, rfl, ⟨h1, h2, h3, h4, h5⟩, f4⟩
    have hx2 := (rngL_get hx).2
    rw [rng0_get hx]
    obtain ⟨L2, l2, y, e, hp⟩ := or_turn (n := n) hn (L := L') (l := l) (o := o) (m := m) (k := i) f4 (by omega) (by omega) (by omega)
    have hlen := hp.length_eq
    rw [List.length_cons] at hlen
    refine ⟨_, .inl e, L2, l2, o ++ [y], _, rfl, ⟨by omega, by simp [h2], ?_, ?_, by omega⟩, .s⟩
    · refine List.Perm.trans ?_ h3
      have p1 : (l2 ++ (o ++ [y])).Perm ((y :: l2) ++ o) := by
        rw [← List.append_assoc]
        exact (List.perm_append_comm).trans (List.Perm.refl _)
      exact p1.trans (hp.append_right o)
    · rw [List.getElem?_append_left (by omega)]
      exact h4)
  rw [rngL_len] at h1 h2
  have hl : l = [] := List.eq_nil_of_length_eq_zero (by omega)
  subst hl
  exact ⟨L', o, e4, e, h3, h4⟩
theorem order_ok (hn : 2 ≤ n) {L : List Int} {m : Int} (h0 : 1 ≤ m) (hm : m ≤ 100) :
    ∃ L' o : List Int, Φ n k__law_order [.da .l (.lst (L.map D.int)), .da .s (.int m)] = .ok true (.lst (o.map D.int)) [.da .l (.lst (L'.map D.int)), .da .s (.int m)] ∧ o.Perm (0 :: evs1 m) ∧ o[0]? = some 0 := by
  obtain ⟨n, rfl⟩ := Nat.exists_eq_add_of_le' hn
  obtain ⟨L', o, e4, e, hp, ho⟩ := or_loop (n := n + 1) (by omega) (L := L) h0 hm
  refine ⟨L', o, ?_, hp, ho⟩
  refine Eq.trans (phi_df fs__law_order rfl) ?_
  have r1 : rngOk 1 m = true := rngOk_s (by omega) (by omega) (by omega) (by omega)
  have r0 : rngOk 0 (m - 1) = true := rngOk_s (by omega) (by omega) (by omega) (by omega)
  have h1 : szOk (m - 1).toNat = true := szOk_lit (by omega)
  have hb : biD .lrng2 [.int 1, .int m] = some (true, .lst ((evs1 m).map D.int)) := by
    show (if (rngOk 1 m && szOk (m - 1).toNat) = true then some (true, D.lst (rngL 1 m)) else none) = _
    rw [r1, h1, rngL_1]
    rfl
  have e' : flp (f__law_order_1 (GG (n + 1))) (rngL 0 (m - 1)) [.da .l (.lst (L.map D.int)), .da .s (.int m), .da .o (.lst ((evs1 m).map D.int)), .da .o (.lst [.int 0]), .un] = _ := e
  simp [hb, r0, e']
abbrev laS (L O : List Int) (mo wi : Int) (out : List La) (e5 e6 e7 : En) : List En := [.da .l (.lst (L.map D.int)), .da .o (.lst (O.map D.int)), .da .s (.int mo), .da .s (.int wi), .da .o (.lst (out.map lD)), e5, e6, e7]
structure LaNew (O : List Int) (wi : Int) (t : Nat) (x : La) : Prop where
  a : ∃ r, r < t ∧ O[r]? = some x.a
  c : O[t]? = some x.c
  l0 : 1 ≤ x.lo
  l1 : x.lo ≤ 4
  h0 : x.lo ≤ x.hi
  h1 : x.hi ≤ x.lo + wi - 1
theorem la_turn (hn : 1 ≤ n) {L O : List Int} {mo wi : Int} {out : List La} {t : Nat} {e5 e6 e7 : En} (f5 : Fr e5) (f6 : Fr e6) (f7 : Fr e7) (hw : 0 < wi) (ht : 1 ≤ t) (ht2 : t < O.length) (ho : out.length ≤ 1000) :
    ∃ L' out' e6' e7', f__law_lasts_1 (GG n) (.int t) (laS L O mo wi out e5 e6 e7) = .ok .nx (laS L' O mo wi out' (.da .s (.int t)) e6' e7') ∧ Fr e6' ∧ Fr e7' ∧ (out' = out ∨ ((out.length : Int) < mo ∧ ∃ x, out' = out ++ [x] ∧ LaNew O wi t x)) := by
  by_cases hmo : (out.length : Int) < mo
  · have et5 := take_ok hn (L := L) (m := 5) (by decide)
    by_cases h5 : tkR L 5 < 4
    · have et4 := take_ok hn (L := tkL L) (m := 4) (by decide)
      have etw := take_ok hn (L := tkL (tkL L)) (m := wi) hw
      have ht' : (0 : Int) < t := by omega
      have ett := take_ok hn (L := tkL (tkL (tkL L))) (m := t) ht'
      obtain ⟨v, hv, ev⟩ := idx_ints (l := O) (j := tkR (tkL (tkL (tkL L))) t) (tkR_0 ht') (by have := tkR_lt (L := tkL (tkL (tkL L))) ht'; omega)
      obtain ⟨u, hu, eu⟩ := idx_ints (l := O) (j := (t : Int)) (by omega) (by omega)
      have h1 : szOk (out.length + 1) = true := szOk_lit (by omega)
      refine ⟨tkL (tkL (tkL (tkL L))), out ++ [⟨v, 1 + tkR (tkL L) 4, 1 + tkR (tkL L) 4 + tkR (tkL (tkL L)) wi, u⟩], .da .s (.int (1 + tkR (tkL L) 4)), .da .s (.int (1 + tkR (tkL L) 4 + tkR (tkL (tkL L)) wi)), ?_, .s, .s, .inr ⟨hmo, _, rfl, ⟨(tkR (tkL (tkL (tkL L))) t).toNat, ?_, hv⟩, ?_, ?_, ?_, ?_, ?_⟩⟩
      · simp [fturn, stE_fr, f5, f6, f7, hmo, et5, h5, et4, etw, ett, ev, eu, h1, lD]
      · have := tkR_lt (L := tkL (tkL (tkL L))) ht'
        have := tkR_0 (L := tkL (tkL (tkL L))) ht'
        omega
      · exact hu
      · have := tkR_0 (L := tkL L) (m := 4) (by decide)
        show 1 ≤ 1 + tkR (tkL L) 4
        omega
      · have := tkR_lt (L := tkL L) (m := 4) (by decide)
        show 1 + tkR (tkL L) 4 ≤ 4
        omega
      · have := tkR_0 (L := tkL (tkL L)) hw
        show 1 + tkR (tkL L) 4 ≤ 1 + tkR (tkL L) 4 + tkR (tkL (tkL L)) wi
        omega
      · have := tkR_lt (L := tkL (tkL L)) hw
        show 1 + tkR (tkL L) 4 + tkR (tkL (tkL L)) wi ≤ 1 + tkR (tkL L) 4 + wi - 1
        omega
    · exact ⟨tkL L, out, e6, e7, by simp [fturn, stE_fr, f5, hmo, et5, h5], f6, f7, .inl rfl⟩
  · exact ⟨L, out, e6, e7, by simp [fturn, stE_fr, f5, hmo], f6, f7, .inl rfl⟩
/-- what is drawn of lasts -/
structure LaAll (O : List Int) (mo wi : Int) (t : Nat) (out : List La) : Prop where
  new : ∀ x ∈ out, ∃ s, s < t ∧ LaNew O wi s x
  nd : (out.map La.c).Nodup
  len : (out.length : Int) ≤ max mo 0
theorem la_loop (hn : 1 ≤ n) {L O : List Int} {mo wi : Int} (hO : O.Nodup) (hO1 : 1 ≤ O.length) (hO2 : O.length ≤ 100) (hw : 0 < wi) (hmo : mo ≤ 100) :
    ∃ L' out e5 e6 e7, flp (f__law_lasts_1 (GG n)) (rngL 1 O.length) (laS L O mo wi [] .un .un .un) = .ok .nx (laS L' O mo wi out e5 e6 e7) ∧ LaAll O mo wi O.length out := by
  obtain ⟨ρ', e, L', out, e5, e6, e7, rfl, ⟨h1, h2⟩, f5, f6, f7⟩ := flp_inv (f := f__law_lasts_1 (GG n)) (xs := rngL 1 O.length) (ρ := laS L O mo wi [] .un .un .un)
    (fun i ρ => ∃ L' out e5 e6 e7, ρ = laS L' O mo wi out e5 e6 e7 ∧ (LaAll O mo wi (1 + i) out ∧ 1 + i ≤ O.length) ∧ Fr e5 ∧ Fr e6 ∧ Fr e7)
    ⟨_, _, _, _, _, rfl, ⟨⟨fun x hx => (nomatch hx), List.nodup_nil, by simp; omega⟩, by omega⟩, .un, .un, .un⟩ (by
    rintro i x ρ hx ⟨L', out, e5, e6, e7, rfl, ⟨A, h2⟩, f5, f6, f7⟩
    obtain ⟨hx1, hx2⟩ := rngL_get hx
    have hlen : out.length ≤ 1000 := by have := A.len; omega
    obtain ⟨L2, out2, e6', e7', e, f6', f7', ho⟩ := la_turn (n := n) hn (L := L') (O := O) (mo := mo) (wi := wi) (out := out) (t := 1 + i) f5 f6 f7 hw (by omega) (by omega) hlen
    have hx3 : x = .int ((1 + i : Nat) : Int) := by rw [hx1]; simp
    rw [hx3]
    refine ⟨_, .inl e, L2, out2, _, e6', e7', rfl, ⟨?_, by omega⟩, .s, f6', f7'⟩
    rcases ho with rfl | ⟨hm, y, rfl, hy⟩
    · exact ⟨fun x hx => by obtain ⟨s, hs, q⟩ := A.new x hx; exact ⟨s, by omega, q⟩, A.nd, A.len⟩
    · refine ⟨fun x hx => ?_, ?_, ?_⟩
      · rcases List.mem_append.mp hx with hx | hx
        · obtain ⟨s, hs, q⟩ := A.new x hx
          exact ⟨s, by omega, q⟩
        · rw [List.mem_singleton.mp hx]
          exact ⟨1 + i, by omega, hy⟩
      · rw [List.map_append, List.nodup_append]
        refine ⟨A.nd, by simp, fun c hc d hd => ?_⟩
        obtain ⟨x, hx, rfl⟩ := List.mem_map.mp hc
        rw [List.map_singleton, List.mem_singleton] at hd
        subst hd
        obtain ⟨s, hs, q⟩ := A.new x hx
        intro heq
        have q1 := q.c
        have q2 := hy.c
        rw [heq, ← q2] at q1
        have := (List.getElem?_inj (by omega) hO).mp q1
        omega
      · rw [List.length_append, List.length_singleton]
        omega)
  rw [rngL_len] at h1
  refine ⟨L', out, e5, e6, e7, e, ?_⟩
  have : 1 + ((O.length : Int) - 1).toNat = O.length := by omega
  rw [this] at h1
  exact h1
end
end G
set_option maxHeartbeats 4000000
/-! E9: lasts drawn are lasts. -/
namespace G
open L2
theorem evs1_mem {m v : Int} : v ∈ evs1 m ↔ 1 ≤ v ∧ v ≤ m - 1 := by
  unfold evs1
  rw [List.mem_map]
  constructor
  · rintro ⟨i, hi, rfl⟩
    have := List.mem_range.mp hi
    omega
  · rintro ⟨h1, h2⟩
    exact ⟨(v - 1).toNat, List.mem_range.mpr (by omega), by omega⟩
theorem evs1_nodup {m : Int} : (evs1 m).Nodup := by
  unfold evs1
  refine List.pairwise_map.mpr (List.nodup_range.imp fun {a b} h e => h ?_)
  omega
theorem ord_nodup {O : List Int} {m : Int} (h : O.Perm (0 :: evs1 m)) : O.Nodup := by
  rw [h.nodup_iff, List.nodup_cons]
  exact ⟨fun q => by have := evs1_mem.mp q; omega, evs1_nodup⟩
theorem ord_mem {O : List Int} {m v : Int} (hm : 1 ≤ m) (h : O.Perm (0 :: evs1 m)) (hv : v ∈ O) : 0 ≤ v ∧ v ≤ m - 1 := by
  rcases List.mem_cons.mp (h.mem_iff.mp hv) with rfl | q
  · omega
  · have := evs1_mem.mp q
    omega
def rankL (O : List Int) (v : Int) : Nat := match O with
  | [] => 0
  | x :: l => if x = v then 0 else rankL l v + 1
theorem idx_rank : ∀ {O : List Int}, O.Nodup → ∀ {r : Nat} {v : Int}, O[r]? = some v → rankL O v = r
  | x :: l, hn, 0, v, h => by
    have e : x = v := Option.some.inj h
    show (if x = v then 0 else rankL l v + 1) = 0
    rw [if_pos e]
  | x :: l, hn, r + 1, v, h => by
    have h : l[r]? = some v := h
    rw [List.nodup_cons] at hn
    have : x ≠ v := fun e => hn.1 (by rw [e]; exact List.mem_of_getElem? h)
    show (if x = v then 0 else rankL l v + 1) = r + 1
    rw [if_neg this, idx_rank hn.2 h]
def laF (x : La) : List Int := [x.a, x.lo, x.hi, x.c]
theorem lD_laF {x : La} : lD x = .tup ((laF x).map D.int) := rfl
section
variable {n : Nat}
theorem lasts_ok (hn : 2 ≤ n) {L O : List Int} {m mo wi : Int} (hm : 1 ≤ m) (hm2 : m ≤ 16) (hp : O.Perm (0 :: evs1 m)) (h0 : O[0]? = some 0) (hw : 0 < wi) (hw2 : wi ≤ 100) (hmo : mo ≤ 5) :
    ∃ (L' : List Int) (ls : List La), Φ n k__law_lasts [.da .l (.lst (L.map D.int)), .da .o (.lst (O.map D.int)), .da .s (.int mo), .da .s (.int wi)] = .ok false (.tup (ls.map lD)) [.da .l (.lst (L'.map D.int)), .da .o (.lst (O.map D.int)), .da .s (.int mo), .da .s (.int wi)] ∧
      (∀ x ∈ ls, LaOk m x) ∧ (ls.length : Int) ≤ max mo 0 ∧ chainB lasLt ls = true ∧ Rooted ls ∧ ∀ x ∈ ls, 1 ≤ x.lo ∧ x.lo ≤ 4 ∧ x.hi ≤ 4 + wi := by
  obtain ⟨n, rfl⟩ := Nat.exists_eq_add_of_le' hn
  have hO := ord_nodup hp
  have hlen : O.length = (m - 1).toNat + 1 := by
    rw [hp.length_eq, List.length_cons, evs1_len]
  obtain ⟨L', out, e5, e6, e7, e, A⟩ := la_loop (n := n + 1) (by omega) (L := L) (O := O) (mo := mo) (wi := wi) hO (by omega) (by omega) hw (by omega)
  have new : ∀ x ∈ out, 0 ≤ x.a ∧ x.a ≤ m - 1 ∧ 1 ≤ x.c ∧ x.c ≤ m - 1 ∧ 1 ≤ x.lo ∧ x.lo ≤ 4 ∧ x.lo ≤ x.hi ∧ x.hi ≤ x.lo + wi - 1 ∧ rankL O x.a < rankL O x.c := by
    intro x hx
    obtain ⟨s, hs, q⟩ := A.new x hx
    obtain ⟨r, hr, ha⟩ := q.a
    have hc := q.c
    have ra := idx_rank hO ha
    have rc := idx_rank hO hc
    have ma := ord_mem hm hp (List.mem_of_getElem? ha)
    have mc := ord_mem hm hp (List.mem_of_getElem? hc)
    have r0 := idx_rank hO h0
    have hc0 : x.c ≠ 0 := fun z => by rw [z, r0] at rc; omega
    have h1 := q.l0
    have h2 := q.l1
    have h3 := q.h0
    have h4 := q.h1
    refine ⟨ma.1, ma.2, by omega, mc.2, h1, h2, h3, h4, by omega⟩
  have hb : ∀ x ∈ out, TS.Bd bd40 (laF x) := by
    intro x hx i hi
    have := new x hx
    unfold bd40
    simp only [laF, List.mem_cons, List.not_mem_nil, or_false] at hi
    omega
  have hl := A.len
  have es := sorted_tupsK (f := laF) (d := 4) (l := out) (by decide) (by omega) (fun _ _ => rfl) hb
  have pm := sort_perm (f := laF) (l := out)
  refine ⟨L', sortK laF out, ?_, fun x hx => ?_, ?_, ?_, ⟨?_, fun v => rankL O v, fun x hx => ?_⟩, fun x hx => ?_⟩
  · refine Eq.trans (phi_df fs__law_lasts rfl) ?_
    have r1 : rngOk 1 O.length = true := rngOk_s (by omega) (by omega) (by omega) (by omega)
    have e' : flp (f__law_lasts_1 (GG (n + 1))) (rngL 1 O.length) [.da .l (.lst (L.map D.int)), .da .o (.lst (O.map D.int)), .da .s (.int mo), .da .s (.int wi), .da .o (.lst []), .un, .un, .un] = _ := e
    have es' : biD .sorted [.lst (out.map lD)] = some (true, .lst ((sortK laF out).map lD)) := es
    simp [r1, e', es']
  · have := new x (pm.mem_iff.mp hx)
    exact ⟨by omega, by omega, by omega, by omega, by omega, by omega, by omega, fun z => by
      have h9 := this.2.2.2.2.2.2.2.2
      rw [z] at h9
      exact absurd h9 (Nat.lt_irrefl _)⟩
  · rw [pm.length_eq]
    exact hl
  · refine sort_chain (f := laF) (d := 4) (fun _ _ => rfl) hb ?_
    have nd := A.nd
    refine List.pairwise_map.mpr ((List.pairwise_map.mp nd).imp fun {a b} h z => h ?_)
    have z : [a.a, a.lo, a.hi, a.c] = [b.a, b.lo, b.hi, b.c] := z
    simp at z
    exact z.2.2.2
  · exact (pm.map La.c).nodup_iff.mpr A.nd
  · exact (new x (pm.mem_iff.mp hx)).2.2.2.2.2.2.2.2
  · have := new x (pm.mem_iff.mp hx)
    omega
end
end G
set_option maxHeartbeats 4000000
/-! E10: bounds drawn. -/
namespace G
open L2
def kF (b : Bd) : List Int := [b.i, b.j]
abbrev keysM (M : List Bd) : List D := M.map fun b => D.tup ((kF b).map D.int)
abbrev valsM (M : List Bd) : List D := M.map fun b => D.int b.w
abbrev dctD (M : List Bd) : D := .dct true (keysM M) (valsM M)
def sameK (x b : Bd) : Bool := decide (b.i = x.i) && decide (b.j = x.j)
def putM (M : List Bd) (x : Bd) : List Bd := if M.any (sameK x) = true then M.map fun b => if sameK x b = true then x else b else M ++ [x]
theorem eqb_key {b : Bd} {i j : Int} : D.eqb (.tup ((kF b).map D.int)) (.tup [.int i, .int j]) = sameK ⟨i, j, 0⟩ b := by
  simp [kF, sameK]
theorem sameK_w {x y b : Bd} (h1 : x.i = y.i) (h2 : x.j = y.j) : sameK x b = sameK y b := by
  unfold sameK
  rw [h1, h2]
theorem has_key {M : List Bd} {x : Bd} : hasD (keysM M) (.tup [.int x.i, .int x.j]) = M.any (sameK x) := by
  unfold hasD
  rw [List.any_map]
  congr 1
  funext b
  exact eqb_key
theorem put_key {M : List Bd} {x : Bd} : putD (keysM M) (valsM M) (.tup [.int x.i, .int x.j]) (.int x.w) = (keysM (putM M x), valsM (putM M x)) := by
  unfold putD putM
  rw [has_key]
  by_cases h : M.any (sameK x) = true
  · rw [if_pos h, if_pos h]
    clear h
    induction M with
    | nil => rfl
    | cons b M ih =>
      simp only [List.map_cons, List.zipWith_cons_cons, Prod.mk.injEq] at ih ⊢
      obtain ⟨ih1, ih2⟩ := ih
      have e : D.eqb (.tup ((kF b).map D.int)) (.tup [.int x.i, .int x.j]) = sameK x b := eqb_key
      by_cases c : sameK x b = true
      · have c' := c
        unfold sameK at c'
        simp only [Bool.and_eq_true, decide_eq_true_eq] at c'
        refine ⟨?_, ?_⟩
        · rw [if_pos c]
          exact congr (congrArg List.cons (by simp [kF, c'.1, c'.2])) ih1
        · rw [e, if_pos c, if_pos c, ih2]
      · refine ⟨?_, ?_⟩
        · rw [if_neg c]
          exact congrArg (List.cons _) ih1
        · rw [e, if_neg c, if_neg c, ih2]
  · rw [if_neg h, if_neg h]
    simp [kF]
theorem look_put {M : List Bd} {x : Bd} : lookD (keysM (putM M x)) (valsM (putM M x)) (.tup [.int x.i, .int x.j]) = some (.int x.w) := by
  have self : sameK x x = true := by unfold sameK; simp
  have key : ∀ N : List Bd, N.any (sameK x) = true → (∀ b ∈ N, sameK x b = true → b.w = x.w) → lookD (keysM N) (valsM N) (.tup [.int x.i, .int x.j]) = some (.int x.w) := by
    intro N
    induction N with
    | nil => intro h; cases h
    | cons b N ih =>
      intro h1 h2
      have e : D.eqb (.tup ((kF b).map D.int)) (.tup [.int x.i, .int x.j]) = sameK x b := eqb_key
      rw [keysM, valsM, List.map_cons, List.map_cons]
      unfold lookD
      rw [e]
      by_cases c : sameK x b = true
      · rw [if_pos c, h2 b List.mem_cons_self c]
      · rw [if_neg c]
        rw [List.any_cons] at h1
        simp only [c, Bool.false_or] at h1
        exact ih h1 fun b hb => h2 b (List.mem_cons_of_mem _ hb)
  refine key _ ?_ ?_
  · unfold putM
    by_cases h : M.any (sameK x) = true
    · rw [if_pos h, List.any_map]
      rw [List.any_eq_true] at h ⊢
      obtain ⟨b, hb, hs⟩ := h
      refine ⟨b, hb, ?_⟩
      show sameK x (if sameK x b = true then x else b) = true
      rw [if_pos hs]
      exact self
    · rw [if_neg h, List.any_append]
      simp [self]
  · intro b hb hs
    unfold putM at hb
    by_cases h : M.any (sameK x) = true
    · rw [if_pos h, List.mem_map] at hb
      obtain ⟨c, hc, rfl⟩ := hb
      by_cases q : sameK x c = true
      · rw [if_pos q]
      · rw [if_neg q] at hs
        exact absurd hs q
    · rw [if_neg h] at hb
      rcases List.mem_append.mp hb with hb | hb
      · exact absurd (List.any_eq_true.mpr ⟨b, hb, hs⟩) h
      · rw [List.mem_singleton.mp hb]
structure GB (m : Int) (b : Bd) : Prop where
  i0 : 0 ≤ b.i
  i1 : b.i ≤ m - 1
  j0 : 0 ≤ b.j
  j1 : b.j ≤ m - 1
  ij : b.i ≠ b.j
  w0 : -1000 ≤ b.w
  w1 : b.w ≤ 1000
structure DOk (m : Int) (k : Nat) (M : List Bd) : Prop where
  ok : ∀ b ∈ M, GB m b
  nd : (M.map kF).Nodup
  len : M.length ≤ k
theorem DOk.nil {m : Int} : DOk m 0 [] := ⟨fun _ h => (nomatch h), List.nodup_nil, Nat.le_refl _⟩
theorem DOk.mono {m : Int} {k j : Nat} {M : List Bd} (h : DOk m k M) (hk : k ≤ j) : DOk m j M := ⟨h.ok, h.nd, Nat.le_trans h.len hk⟩
theorem DOk.put {m : Int} {k : Nat} {M : List Bd} {x : Bd} (h : DOk m k M) (hx : GB m x) : DOk m (k + 1) (putM M x) := by
  unfold putM
  by_cases c : M.any (sameK x) = true
  · rw [if_pos c]
    refine ⟨fun b hb => ?_, ?_, by rw [List.length_map]; have := h.len; omega⟩
    · obtain ⟨d, hd, rfl⟩ := List.mem_map.mp hb
      split
      · exact hx
      · exact h.ok d hd
    · have : (M.map fun b => if sameK x b = true then x else b).map kF = M.map kF := by
        rw [List.map_map]
        refine List.map_congr_left fun b _ => ?_
        show kF (if sameK x b = true then x else b) = kF b
        split
        · rename_i q
          unfold sameK at q
          simp only [Bool.and_eq_true, decide_eq_true_eq] at q
          unfold kF
          rw [q.1, q.2]
        · rfl
      rw [this]
      exact h.nd
  · rw [if_neg c]
    refine ⟨fun b hb => ?_, ?_, by rw [List.length_append, List.length_singleton]; have := h.len; omega⟩
    · rcases List.mem_append.mp hb with hb | hb
      · exact h.ok b hb
      · rw [List.mem_singleton.mp hb]; exact hx
    · rw [List.map_append, List.nodup_append]
      refine ⟨h.nd, by simp, fun a ha b hb e => c ?_⟩
      rw [List.map_singleton, List.mem_singleton] at hb
      subst hb
      obtain ⟨d, hd, rfl⟩ := List.mem_map.mp ha
      refine List.any_eq_true.mpr ⟨d, hd, ?_⟩
      unfold kF at e
      simp at e
      unfold sameK
      simp [e.1, e.2]
section
variable {n : Nat} {ρ : List En}
def setE (i : Nat) (k y : D) (ρ : List En) : En → Rs Unit
  | .da .o (.dct t ks vs) => if keyFits t k && decide (ks.length < PySem.sizeLine) then .ok () (ρ.set i (.da .o (.dct t (putD ks vs k y).1 (putD ks vs k y).2))) else .no
  | .da .l (.dct t ks vs) => if keyFits t k && decide (ks.length < PySem.sizeLine) then .ok () (ρ.set i (.da .l (.dct t (putD ks vs k y).1 (putD ks vs k y).2))) else .no
  | _ => .no
theorem szl {k : Nat} (h : k ≤ 1000) : decide (k < PySem.sizeLine) = true := by
  rw [PySem.sizeLine_eq]
  exact decide_eq_true (by omega)
theorem setI_l {i : Nat} {M : List Bd} {a b w : Int} (hg : gt ρ i = .da .l (dctD M)) (hl : M.length ≤ 1000) : setI i (.tup [.int a, .int b]) (.int w) ρ = .ok () (ρ.set i (.da .l (dctD (putM M ⟨a, b, w⟩)))) := by
  unfold setI
  rw [hg]
  show (if (keyFits true (.tup [.int a, .int b]) && decide ((keysM M).length < PySem.sizeLine)) = true then _ else _) = _
  rw [szl (by rw [List.length_map]; exact hl)]
  have := put_key (M := M) (x := ⟨a, b, w⟩)
  dsimp only at this
  rw [this]
  rfl
theorem setI_o {i : Nat} {M : List Bd} {a b w : Int} (hg : gt ρ i = .da .o (dctD M)) (hl : M.length ≤ 1000) : setI i (.tup [.int a, .int b]) (.int w) ρ = .ok () (ρ.set i (.da .o (dctD (putM M ⟨a, b, w⟩)))) := by
  unfold setI
  rw [hg]
  show (if (keyFits true (.tup [.int a, .int b]) && decide ((keysM M).length < PySem.sizeLine)) = true then _ else _) = _
  rw [szl (by rw [List.length_map]; exact hl)]
  have := put_key (M := M) (x := ⟨a, b, w⟩)
  dsimp only at this
  rw [this]
  rfl
theorem putM_len {M : List Bd} {x : Bd} : (putM M x).length ≤ M.length + 1 := by
  unfold putM
  split
  · rw [List.length_map]; omega
  · rw [List.length_append, List.length_singleton]; omega
theorem idx_put {M : List Bd} {a b w : Int} : idxD (dctD (putM M ⟨a, b, w⟩)) (.tup [.int a, .int b]) = some (.int w) := by
  show (if keyFits true (.tup [.int a, .int b]) = true then lookD (keysM (putM M ⟨a, b, w⟩)) (valsM (putM M ⟨a, b, w⟩)) (.tup [.int a, .int b]) else none) = _
  exact look_put (x := ⟨a, b, w⟩)
end
end G
set_option maxHeartbeats 4000000
/-! E11: bounds and couples drawn. -/
namespace G
open L2
theorem look_mem {M : List Bd} {x : Bd} (hn : (M.map kF).Nodup) (hx : x ∈ M) : lookD (keysM M) (valsM M) (.tup [.int x.i, .int x.j]) = some (.int x.w) := by
  induction M with
  | nil => cases hx
  | cons b M ih =>
    rw [List.map_cons, List.nodup_cons] at hn
    have e : D.eqb (.tup ((kF b).map D.int)) (.tup [.int x.i, .int x.j]) = sameK x b := eqb_key
    rw [keysM, valsM, List.map_cons, List.map_cons]
    unfold lookD
    rw [e]
    rcases List.mem_cons.mp hx with rfl | hx
    · rw [if_pos (by unfold sameK; simp)]
    · rw [if_neg (fun c => hn.1 ?_)]
      · exact ih hn.2 hx
      · unfold sameK at c
        simp only [Bool.and_eq_true, decide_eq_true_eq] at c
        refine List.mem_map.mpr ⟨x, hx, ?_⟩
        unfold kF
        rw [c.1, c.2]
theorem idx_mem {M : List Bd} {x : Bd} (hn : (M.map kF).Nodup) (hx : x ∈ M) : idxD (dctD M) (.tup [.int x.i, .int x.j]) = some (.int x.w) := look_mem hn hx
theorem keys_bd {m : Int} {k : Nat} {M : List Bd} (h : DOk m k M) (hm : m ≤ 100) : ∀ x ∈ M, TS.Bd bd40 (kF x) := fun x hx i hi => by
  have := h.ok x hx
  have h1 := this.i0
  have h2 := this.i1
  have h3 := this.j0
  have h4 := this.j1
  unfold bd40
  simp only [kF, List.mem_cons, List.not_mem_nil, or_false] at hi
  omega
theorem sorted_dct {m : Int} {k : Nat} {M : List Bd} (h : DOk m k M) (hm : m ≤ 100) (hk : k < 64) : biD .sorted [dctD M] = some (true, .lst ((sortK kF M).map fun x => D.tup [.int x.i, .int x.j])) :=
  sorted_keys (f := kF) (d := 2) (by decide) (Nat.lt_of_le_of_lt h.len hk) (fun _ _ => rfl) (keys_bd h hm)
theorem sort_pairs {m : Int} {k : Nat} {M : List Bd} (h : DOk m k M) (hm : m ≤ 100) : chainB pairLt (sortK kF M) = true :=
  sort_chain (f := kF) (d := 2) (fun _ _ => rfl) (keys_bd h hm) h.nd
section
variable {n : Nat}
abbrev bnS (L : List Int) (m mo lo wi : Int) (M : List Bd) (e6 e7 e8 : En) : List En := [.da .l (.lst (L.map D.int)), .da .s (.int m), .da .s (.int mo), .da .s (.int lo), .da .s (.int wi), .da .o (dctD M), e6, e7, e8, .un]
theorem bn_turn (hn : 1 ≤ n) {L : List Int} {m mo lo wi k : Int} {M : List Bd} {e6 e7 e8 : En} (f6 : Fr e6) (f7 : Fr e7) (f8 : Fr e8) (hm : 0 < m) (hw : 0 < wi) (hw2 : wi ≤ 100) (hl : -100 ≤ lo) (hl2 : lo ≤ 100) (hM : M.length ≤ 900) :
    ∃ L' M' e7' e8', f__law_bounds_2 (GG n) (.int k) (bnS L m mo lo wi M e6 e7 e8) = .ok .nx (bnS L' m mo lo wi M' (.da .s (.int k)) e7' e8') ∧ Fr e7' ∧ Fr e8' ∧ (M' = M ∨ ∃ x, M' = putM M x ∧ GB m x) := by
  have t1 := take_ok hn (L := L) hm
  have t2 := take_ok hn (L := tkL L) hm
  have t3 := take_ok hn (L := tkL (tkL L)) hw
  have r1 := tkR_0 (L := L) hm
  have r2 := tkR_lt (L := L) hm
  have r3 := tkR_0 (L := tkL L) hm
  have r4 := tkR_lt (L := tkL L) hm
  have r5 := tkR_0 (L := tkL (tkL L)) hw
  have r6 := tkR_lt (L := tkL (tkL L)) hw
  by_cases h : tkR L m = tkR (tkL L) m
  · exact ⟨tkL (tkL L), M, .da .s (.int (tkR L m)), .da .s (.int (tkR (tkL L) m)), by simp [fturn, stE_fr, f6, f7, f8, t1, t2, h], .s, .s, .inl rfl⟩
  · refine ⟨tkL (tkL (tkL L)), putM M ⟨tkR L m, tkR (tkL L) m, lo + tkR (tkL (tkL L)) wi⟩, .da .s (.int (tkR L m)), .da .s (.int (tkR (tkL L) m)), ?_, .s, .s, .inr ⟨_, rfl, ⟨?_, ?_, ?_, ?_, h, ?_, ?_⟩⟩⟩
    · have e := setI_o (ρ := bnS (tkL (tkL (tkL L))) m mo lo wi M (.da .s (.int k)) (.da .s (.int (tkR L m))) (.da .s (.int (tkR (tkL L) m)))) (i := 5) (M := M) (a := tkR L m) (b := tkR (tkL L) m) (w := lo + tkR (tkL (tkL L)) wi) rfl (by omega)
      simp [fturn, stE_fr, f6, f7, f8, t1, t2, t3, h, e]
    all_goals (dsimp only; omega)
theorem bn_loop (hn : 1 ≤ n) {L : List Int} {m mo lo wi q : Int} (hm : 0 < m) (hw : 0 < wi) (hw2 : wi ≤ 100) (hl : -100 ≤ lo) (hl2 : lo ≤ 100) (hq : 0 ≤ q) (hq2 : q ≤ 100) :
    ∃ L' M e6 e7 e8, flp (f__law_bounds_2 (GG n)) (rngL 0 q) (bnS L m mo lo wi [] .un .un .un) = .ok .nx (bnS L' m mo lo wi M e6 e7 e8) ∧ DOk m q.toNat M := by
  obtain ⟨ρ', e, L', M, e6, e7, e8, rfl, ⟨h1, h2⟩, f6, f7, f8⟩ := flp_inv (f := f__law_bounds_2 (GG n)) (xs := rngL 0 q) (ρ := bnS L m mo lo wi [] .un .un .un)
    (fun i ρ => ∃ L' M e6 e7 e8, ρ = bnS L' m mo lo wi M e6 e7 e8 ∧ (DOk m i M ∧ i ≤ q.toNat) ∧ Fr e6 ∧ Fr e7 ∧ Fr e8)
    ⟨_, _, _, _, _, rfl, ⟨DOk.nil, Nat.zero_le _⟩, .un, .un, .un⟩ (by
    rintro i x ρ hx ⟨L', M, e6, e7, e8, rfl, ⟨h1, h2⟩, f6, f7, f8⟩
    have hx2 := (rngL_get hx).2
    rw [rng0_get hx]
    obtain ⟨L2, M2, e7', e8', e, f7', f8', hM⟩ := bn_turn (n := n) hn (L := L') (m := m) (mo := mo) (lo := lo) (wi := wi) (k := i) (M := M) f6 f7 f8 hm hw hw2 hl hl2 (by have := h1.len; omega)
    refine ⟨_, .inl e, L2, M2, _, e7', e8', rfl, ⟨?_, by omega⟩, .s, f7', f8'⟩
    rcases hM with rfl | ⟨x, rfl, hx⟩
    · exact h1.mono (Nat.le_succ _)
    · exact h1.put hx)
  rw [rngL_len, Int.sub_zero] at h1
  exact ⟨L', M, e6, e7, e8, e, h1⟩
theorem bounds_ok (hn : 2 ≤ n) {L : List Int} {m mo lo wi : Int} (hm : 0 < m) (hm2 : m ≤ 100) (hmo : 0 < mo) (hmo2 : mo ≤ 60) (hw : 0 < wi) (hw2 : wi ≤ 100) (hl : -100 ≤ lo) (hl2 : lo ≤ 100) :
    ∃ (L' : List Int) (bs : List Bd), Φ n k__law_bounds [.da .l (.lst (L.map D.int)), .da .s (.int m), .da .s (.int mo), .da .s (.int lo), .da .s (.int wi)] = .ok false (.tup (bs.map bD)) [.da .l (.lst (L'.map D.int)), .da .s (.int m), .da .s (.int mo), .da .s (.int lo), .da .s (.int wi)] ∧
      (∀ b ∈ bs, GB m b) ∧ (bs.length : Int) ≤ mo := by
  obtain ⟨n, rfl⟩ := Nat.exists_eq_add_of_le' hn
  have t0 := take_ok (n := n + 1) (by omega) (L := L) hmo
  have r0 := tkR_0 (L := L) hmo
  have r1 := tkR_lt (L := L) hmo
  obtain ⟨L', M, e6, e7, e8, e, h⟩ := bn_loop (n := n + 1) (by omega) (L := tkL L) (m := m) (mo := mo) (lo := lo) (wi := wi) (q := 1 + tkR L mo) hm hw hw2 hl hl2 (by omega) (by omega)
  have pm := sort_perm (f := kF) (l := M)
  refine ⟨L', sortK kF M, ?_, fun b hb => h.ok b (pm.mem_iff.mp hb), by rw [pm.length_eq]; have := h.len; omega⟩
  refine Eq.trans (phi_df fs__law_bounds rfl) ?_
  have r2 : rngOk 0 (1 + tkR L mo) = true := rngOk_s (by omega) (by omega) (by omega) (by omega)
  have e' : flp (f__law_bounds_2 (GG (n + 1))) (rngL 0 (1 + tkR L mo)) [.da .l (.lst ((tkL L).map D.int)), .da .s (.int m), .da .s (.int mo), .da .s (.int lo), .da .s (.int wi), .da .o (.dct true [] []), .un, .un, .un, .un] = _ := e
  have es := sorted_dct h hm2 (by omega)
  have e1 := clpF (l := sortK kF M) (F := fun x : Bd => D.tup [.int x.i, .int x.j]) (h := bD) (ρ := bnS L' m mo lo wi M e6 e7 e8) (f := c__law_bounds_1 (GG (n + 1))) (fun x hx => by
    have := idx_mem h.nd (pm.mem_iff.mp hx)
    simp [cturn, wp, this, bD])
  have hlen : (sortK kF M).length ≤ 10000 := by rw [pm.length_eq]; have := h.len; omega
  simp [t0, r2, e', es, wp, bk, e1, hlen]
end
end G
set_option maxHeartbeats 8000000
/-! E12: couples drawn. -/
namespace G
open L2
def setD (i : Nat) (a b w : Int) (ρ : List En) : En → Rs Unit
  | .da .o (.dct t ks vs) => if keyFits t (.tup [.int a, .int b]) && decide (ks.length < PySem.sizeLine) then .ok () (ρ.set i (.da .o (.dct t (putD ks vs (.tup [.int a, .int b]) (.int w)).1 (putD ks vs (.tup [.int a, .int b]) (.int w)).2))) else .no
  | .da .l (.dct t ks vs) => if keyFits t (.tup [.int a, .int b]) && decide (ks.length < PySem.sizeLine) then .ok () (ρ.set i (.da .l (.dct t (putD ks vs (.tup [.int a, .int b]) (.int w)).1 (putD ks vs (.tup [.int a, .int b]) (.int w)).2))) else .no
  | .da .o (.lst xs) => .no
  | .da .l (.lst xs) => .no
  | _ => .no
@[simp] theorem setI_e {i : Nat} {a b w : Int} {ρ : List En} : setI i (.tup [.int a, .int b]) (.int w) ρ = setD i a b w ρ (gt ρ i) := by
  unfold setI
  cases gt ρ i with
  | un => rfl
  | xc x => rfl
  | da w' d => cases w' <;> cases d <;> rfl
theorem setD_l {i : Nat} {M : List Bd} {a b w : Int} {ρ : List En} (hl : M.length ≤ 1000) : setD i a b w ρ (.da .l (dctD M)) = .ok () (ρ.set i (.da .l (dctD (putM M ⟨a, b, w⟩)))) := by
  show (if (keyFits true (.tup [.int a, .int b]) && decide ((keysM M).length < PySem.sizeLine)) = true then _ else _) = _
  rw [szl (by rw [List.length_map]; exact hl)]
  have := put_key (M := M) (x := ⟨a, b, w⟩)
  dsimp only at this
  rw [this]
  rfl
theorem setD_o {i : Nat} {M : List Bd} {a b w : Int} {ρ : List En} (hl : M.length ≤ 1000) : setD i a b w ρ (.da .o (dctD M)) = .ok () (ρ.set i (.da .o (dctD (putM M ⟨a, b, w⟩)))) := by
  show (if (keyFits true (.tup [.int a, .int b]) && decide ((keysM M).length < PySem.sizeLine)) = true then _ else _) = _
  rw [szl (by rw [List.length_map]; exact hl)]
  have := put_key (M := M) (x := ⟨a, b, w⟩)
  dsimp only at this
  rw [this]
  rfl
@[simp] theorem isOE_dl {M : List Bd} : isOE (.da .l (dctD M)) = true := id rfl
section
variable {n : Nat}
theorem couple_ok (hn : 2 ≤ n) {L : List Int} {M : List Bd} {l : La} {x m : Int} {k : Nat} (h : DOk m k M) (hk : k ≤ 500) (x0 : 0 ≤ x) (x1 : x ≤ m - 1) (c0 : 0 ≤ l.c) (c1 : l.c ≤ m - 1) (hx : x ≠ l.c) (l0 : 1 ≤ l.lo) (l1 : l.lo ≤ 4) (lh : l.lo ≤ l.hi) (h1 : l.hi ≤ 100) :
    ∃ (L' : List Int) (M' : List Bd), Φ n k__law_couple [.da .l (.lst (L.map D.int)), .da .l (dctD M), .da .s (lD l), .da .s (.int x)] = .ok false .non [.da .l (.lst (L'.map D.int)), .da .l (dctD M'), .da .s (lD l), .da .s (.int x)] ∧ DOk m (k + 2) M' := by
  obtain ⟨n, rfl⟩ := Nat.exists_eq_add_of_le' hn
  have ml := h.len
  have n1 : 1 ≤ n + 1 := by omega
  have t1 := take_ok n1 (L := L) (m := 6) (by decide)
  have t2 := take_ok n1 (L := tkL L) (m := l.lo) (by omega)
  have r2 := tkR_0 (L := tkL L) (m := l.lo) (by omega)
  have r3 := tkR_lt (L := tkL L) (m := l.lo) (by omega)
  have m1 : M.length ≤ 1000 := by omega
  have m2 : ∀ y, (putM M y).length ≤ 1000 := fun y => by have := putM_len (M := M) (x := y); omega
  have good : ∀ w, -1000 ≤ w → w ≤ 1000 → GB m ⟨l.c, x, w⟩ := fun w h1 h2 => ⟨c0, c1, x0, x1, Ne.symm hx, h1, h2⟩
  have good' : ∀ w, -1000 ≤ w → w ≤ 1000 → GB m ⟨x, l.c, w⟩ := fun w h1 h2 => ⟨x0, x1, c0, c1, hx, h1, h2⟩
  by_cases k0 : tkR L 6 = 0
  · by_cases hmx : 1 < l.hi - l.lo
    · have t3 := take_ok n1 (L := tkL (tkL L)) (m := l.hi - l.lo) (by omega)
      have r4 := tkR_0 (L := tkL (tkL L)) (m := l.hi - l.lo) (by omega)
      have r5 := tkR_lt (L := tkL (tkL L)) (m := l.hi - l.lo) (by omega)
      refine ⟨tkL (tkL (tkL L)), putM (putM M ⟨l.c, x, 0 - (1 + tkR (tkL L) l.lo)⟩) ⟨x, l.c, 1 + tkR (tkL L) l.lo + tkR (tkL (tkL L)) (l.hi - l.lo)⟩, Eq.trans (phi_df fs__law_couple rfl) ?_, (h.put (good _ (by omega) (by omega))).put (good' _ (by omega) (by omega))⟩
      simp only [lD] at *
      simp [t1, t2, k0, hmx, t3, setD_l, m1, m2]
    · have t3 := take_ok n1 (L := tkL (tkL L)) (m := 1) (by omega)
      have r4 := tkR_0 (L := tkL (tkL L)) (m := 1) (by omega)
      have r5 := tkR_lt (L := tkL (tkL L)) (m := 1) (by omega)
      refine ⟨tkL (tkL (tkL L)), putM (putM M ⟨l.c, x, 0 - (1 + tkR (tkL L) l.lo)⟩) ⟨x, l.c, 1 + tkR (tkL L) l.lo + tkR (tkL (tkL L)) 1⟩, Eq.trans (phi_df fs__law_couple rfl) ?_, (h.put (good _ (by omega) (by omega))).put (good' _ (by omega) (by omega))⟩
      simp only [lD] at *
      simp [t1, t2, k0, hmx, t3, setD_l, m1, m2]
  · by_cases k1 : tkR L 6 = 1
    · have t3 := take_ok n1 (L := tkL (tkL L)) (m := 3) (by omega)
      have r4 := tkR_0 (L := tkL (tkL L)) (m := 3) (by omega)
      have r5 := tkR_lt (L := tkL (tkL L)) (m := 3) (by omega)
      refine ⟨tkL (tkL (tkL L)), putM (putM M ⟨l.c, x, 0 - (1 + tkR (tkL L) l.lo)⟩) ⟨x, l.c, 1 + tkR (tkL L) l.lo + l.hi - l.lo + tkR (tkL (tkL L)) 3⟩, Eq.trans (phi_df fs__law_couple rfl) ?_, (h.put (good _ (by omega) (by omega))).put (good' _ (by omega) (by omega))⟩
      simp only [lD] at *
      simp [t1, t2, k1, t3, setD_l, m1, m2]
    · by_cases k2 : tkR L 6 = 2
      · have t3 := take_ok n1 (L := tkL (tkL L)) (m := 4) (by omega)
        have t4 := take_ok n1 (L := tkL (tkL (tkL L))) (m := 4) (by omega)
        have r4 := tkR_0 (L := tkL (tkL L)) (m := 4) (by omega)
        have r5 := tkR_lt (L := tkL (tkL L)) (m := 4) (by omega)
        have r6 := tkR_0 (L := tkL (tkL (tkL L))) (m := 4) (by omega)
        have r7 := tkR_lt (L := tkL (tkL (tkL L))) (m := 4) (by omega)
        refine ⟨tkL (tkL (tkL (tkL L))), putM (putM M ⟨l.c, x, tkR (tkL (tkL L)) 4⟩) ⟨x, l.c, tkR (tkL (tkL (tkL L))) 4⟩, Eq.trans (phi_df fs__law_couple rfl) ?_, (h.put (good _ (by omega) (by omega))).put (good' _ (by omega) (by omega))⟩
        simp only [lD] at *
        simp [t1, t2, k2, t3, t4, setD_l, m1, m2]
      · by_cases k3 : tkR L 6 = 3
        · have t3 := take_ok n1 (L := tkL (tkL L)) (m := 3) (by omega)
          have t4 := take_ok n1 (L := tkL (tkL (tkL L))) (m := 3) (by omega)
          have r4 := tkR_0 (L := tkL (tkL L)) (m := 3) (by omega)
          have r5 := tkR_lt (L := tkL (tkL L)) (m := 3) (by omega)
          have r6 := tkR_0 (L := tkL (tkL (tkL L))) (m := 3) (by omega)
          have r7 := tkR_lt (L := tkL (tkL (tkL L))) (m := 3) (by omega)
          refine ⟨tkL (tkL (tkL (tkL L))), putM (putM M ⟨x, l.c, 0 - tkR (tkL (tkL L)) 3⟩) ⟨l.c, x, tkR (tkL (tkL (tkL L))) 3 - (0 - tkR (tkL (tkL L)) 3)⟩, Eq.trans (phi_df fs__law_couple rfl) ?_, (h.put (good' _ (by omega) (by omega))).put (good _ (by omega) (by omega))⟩
          simp only [lD] at *
          simp [t1, t2, k3, t3, t4, setD_l, m1, m2, idx_put]
        · by_cases k4 : tkR L 6 = 4
          · have t3 := take_ok n1 (L := tkL (tkL L)) (m := l.hi) (by omega)
            have r4 := tkR_0 (L := tkL (tkL L)) (m := l.hi) (by omega)
            have r5 := tkR_lt (L := tkL (tkL L)) (m := l.hi) (by omega)
            refine ⟨tkL (tkL (tkL L)), putM M ⟨x, l.c, tkR (tkL (tkL L)) l.hi⟩, Eq.trans (phi_df fs__law_couple rfl) ?_, (h.put (good' _ (by omega) (by omega))).mono (Nat.le_succ _)⟩
            simp only [lD] at *
            simp [t1, t2, k4, t3, setD_l, m1, m2]
          · refine ⟨tkL (tkL L), M, Eq.trans (phi_df fs__law_couple rfl) ?_, h.mono (by omega)⟩
            simp only [lD] at *
            simp [t1, t2, k0, k1, k2, k3, k4]
end
end G
set_option maxHeartbeats 8000000
/-! E13: nets drawn. -/
namespace G
open L2
theorem eqOks_ints {l : List Int} : D.eqOks (l.map D.int) = true := by
  induction l with
  | nil => rw [List.map_nil, D.eqOks]
  | cons i l ih => rw [List.map_cons, D.eqOks, ih, D.eqOk]; rfl
theorem deps_ints {l : List Int} : D.deps (l.map D.int) = 0 := by
  induction l with
  | nil => rw [List.map_nil, D.deps]
  | cons i l ih => rw [List.map_cons, D.deps, ih, D.dep]; rfl
theorem cmp_lints {l : List Int} : (D.lst (l.map D.int)).cmpOk = true := by
  unfold D.cmpOk
  rw [D.eqOk, eqOks_ints, D.dep, deps_ints]
  rfl
theorem cmp_tints {l : List Int} : (D.tup (l.map D.int)).cmpOk = true := by
  unfold D.cmpOk
  rw [D.eqOk, eqOks_ints, D.dep, deps_ints]
  rfl
theorem p_notin_l {l : List Int} {x : Int} : prim2 .notin (.int x) (.lst (l.map D.int)) = some (false, .bl (!decide (x ∈ l))) := by
  show (if ((D.int x).cmpOk && (D.lst (l.map D.int)).cmpOk) = true then some (false, D.bl (!(l.map D.int).any fun y => D.eqb y (.int x))) else none) = _
  rw [cmp_lints, any_eqb]
  rfl
theorem p_notin_d {M : List Bd} {i j : Int} : prim2 .notin (.tup [.int i, .int j]) (dctD M) = some (false, .bl (!M.any (sameK ⟨i, j, 0⟩))) := by
  show (if keyFits true (.tup [.int i, .int j]) = true then some (false, D.bl (!hasD (keysM M) (.tup [.int i, .int j]))) else none) = _
  have := has_key (M := M) (x := ⟨i, j, 0⟩)
  dsimp only at this
  rw [this]
  rfl
section
variable {n : Nat}
abbrev ntS (L : List Int) (le mo en m : Int) (ls : List La) (e7 : En) (th ou : List Int) (M : List Bd) (e11 e12 e13 : En) : List En :=
  [.da .l (.lst (L.map D.int)), .da .s (.int le), .da .s (.int mo), .da .s (.int en), .da .s (.int m), .da .s (.tup (ls.map lD)), .da .o (.lst (th.map D.int)), e7, .da .o (.lst (ou.map D.int)), .da .o (dctD M), .un, e11, e12, e13, .un]
/-- what lasts are like here -/
structure LsOk (m : Int) (ls : List La) : Prop where
  ok : ∀ x ∈ ls, LaOk m x
  sm : ∀ x ∈ ls, 1 ≤ x.lo ∧ x.lo ≤ 4 ∧ x.hi ≤ 8
theorem nt_turn3 (hn : 3 ≤ n) {L : List Int} {le mo en m : Int} {ls : List La} {e7 e11 e12 e13 : En} {th ou : List Int} {M : List Bd} {l : La} {k : Nat} (f7 : Fr e7) (h : DOk m k M) (hk : k ≤ 400)
    (hl : LsOk m ls) (hm : l ∈ ls) (hou : ∀ x ∈ ou, 1 ≤ x ∧ x ≤ m - 1 ∧ x ∉ ls.map La.c) :
    ∃ L' M', f__law_net_3 (GG n) (lD l) (ntS L le mo en m ls e7 th ou M e11 e12 e13) = .ok .nx (ntS L' le mo en m ls (.da .s (lD l)) th ou M' e11 e12 e13) ∧ DOk m (k + 2) M' := by
  by_cases ho : ou = []
  · subst ho
    exact ⟨L, M, by simp [fturn, stE_fr, f7], h.mono (by omega)⟩
  · have t1 := take_ok (n := n) (by omega) (L := L) (m := 6) (by decide)
    by_cases h6 : 0 < tkR L 6
    · have hlen : (0 : Int) < ou.length := by
        have := List.length_pos_iff.mpr ho
        omega
      have t2 := take_ok (n := n) (by omega) (L := tkL L) (m := ou.length) hlen
      obtain ⟨v, hv, ev⟩ := idx_ints (l := ou) (j := tkR (tkL L) ou.length) (tkR_0 hlen) (tkR_lt hlen)
      obtain ⟨v1, v2, v3⟩ := hou v (List.mem_of_getElem? hv)
      have lo := hl.ok l hm
      have ls' := hl.sm l hm
      obtain ⟨L2, M2, e, hM⟩ := couple_ok (n := n) (by omega) (L := tkL (tkL L)) (l := l) (x := v) h (by omega) (by omega) (by omega) (by have := lo.c0; omega) lo.c1 (fun z => v3 (by rw [z]; exact List.mem_map.mpr ⟨l, hm, rfl⟩)) lo.l0 ls'.2.1 lo.lh (by omega)
      exact ⟨L2, M2, by simp [fturn, stE_fr, f7, ho, t1, h6, t2, ev, e], hM⟩
    · exact ⟨tkL L, M, by simp [fturn, stE_fr, f7, ho, t1, h6], h.mono (by omega)⟩
theorem nt_loop3 (hn : 3 ≤ n) {L : List Int} {le mo en m : Int} {ls : List La} {th ou : List Int} (hl : LsOk m ls) (hll : ls.length ≤ 5) (hou : ∀ x ∈ ou, 1 ≤ x ∧ x ≤ m - 1 ∧ x ∉ ls.map La.c) :
    ∃ L' M e7, flp (f__law_net_3 (GG n)) (ls.map lD) (ntS L le mo en m ls .un th ou [] .un .un .un) = .ok .nx (ntS L' le mo en m ls e7 th ou M .un .un .un) ∧ DOk m 10 M ∧ Fr e7 := by
  obtain ⟨ρ', e, L', M, e7, rfl, ⟨h1, h2⟩, f7⟩ := flp_inv (f := f__law_net_3 (GG n)) (xs := ls.map lD) (ρ := ntS L le mo en m ls .un th ou [] .un .un .un)
    (fun i ρ => ∃ L' M e7, ρ = ntS L' le mo en m ls e7 th ou M .un .un .un ∧ (DOk m (2 * i) M ∧ i ≤ ls.length) ∧ Fr e7) ⟨_, _, _, rfl, ⟨DOk.nil, Nat.zero_le _⟩, .un⟩ (by
    rintro i x ρ hx ⟨L', M, e7, rfl, ⟨h1, h2⟩, f7⟩
    have hi := (List.getElem?_eq_some_iff.mp hx).1
    rw [List.length_map] at hi
    rw [List.getElem?_map] at hx
    obtain ⟨la, hla, rfl⟩ : ∃ la, ls[i]? = some la ∧ lD la = x := by
      cases q : ls[i]? with
      | none => rw [q] at hx; cases hx
      | some la => rw [q] at hx; exact ⟨la, rfl, Option.some.inj hx⟩
    obtain ⟨L2, M2, e, hM⟩ := nt_turn3 (n := n) hn (L := L') (le := le) (mo := mo) (en := en) (th := th) (e11 := .un) (e12 := .un) (e13 := .un) f7 h1 (by omega) hl (List.mem_of_getElem? hla) hou
    exact ⟨_, .inl e, L2, M2, _, rfl, ⟨hM.mono (by omega), by omega⟩, .s⟩)
  rw [List.length_map] at h1
  exact ⟨L', M, e7, e, h1.mono (by omega), f7⟩
theorem nt_turn2 (hn : 1 ≤ n) {L : List Int} {le mo en m : Int} {ls : List La} {e7 e11 e12 e13 : En} {th ou : List Int} {M : List Bd} {b : Bd} {k : Nat} (f11 : Fr e11) (f12 : Fr e12) (f13 : Fr e13) (h : DOk m k M) (hk : k ≤ 400) (hb : GB m b) :
    ∃ L' M', f__law_net_2 (GG n) (bD b) (ntS L le mo en m ls e7 th ou M e11 e12 e13) = .ok .nx (ntS L' le mo en m ls e7 th ou M' (.da .s (.int b.i)) (.da .s (.int b.j)) (.da .s (.int b.w))) ∧ DOk m (k + 1) M' := by
  have ml := h.len
  by_cases hi : M.any (sameK ⟨b.i, b.j, 0⟩) = true
  · exact ⟨L, M, by simp [fturn, bD, stE_fr, f11, f12, f13, p_notin_d, hi, -List.any_eq_true], h.mono (Nat.le_succ _)⟩
  · simp only [Bool.not_eq_true] at hi
    have t1 := take_ok (n := n) hn (L := L) (m := 3) (by decide)
    by_cases h3 : 0 < tkR L 3
    · exact ⟨tkL L, putM M ⟨b.i, b.j, b.w⟩, by simp [fturn, bD, stE_fr, f11, f12, f13, p_notin_d, hi, t1, h3, setD_o, show M.length ≤ 1000 by omega, -List.any_eq_false], h.put hb⟩
    · exact ⟨tkL L, M, by simp [fturn, bD, stE_fr, f11, f12, f13, p_notin_d, hi, t1, h3, -List.any_eq_false], h.mono (Nat.le_succ _)⟩
theorem nt_loop2 (hn : 1 ≤ n) {L : List Int} {le mo en m : Int} {ls : List La} {e7 : En} {th ou : List Int} {M : List Bd} {bs : List Bd} (hM : DOk m 10 M) (hb : ∀ b ∈ bs, GB m b) (hbl : bs.length ≤ 40) :
    ∃ L' M' e11 e12 e13, flp (f__law_net_2 (GG n)) (bs.map bD) (ntS L le mo en m ls e7 th ou M .un .un .un) = .ok .nx (ntS L' le mo en m ls e7 th ou M' e11 e12 e13) ∧ DOk m 50 M' := by
  obtain ⟨ρ', e, L', M', e11, e12, e13, rfl, ⟨h1, h2⟩, f⟩ := flp_inv (f := f__law_net_2 (GG n)) (xs := bs.map bD) (ρ := ntS L le mo en m ls e7 th ou M .un .un .un)
    (fun i ρ => ∃ L' M e11 e12 e13, ρ = ntS L' le mo en m ls e7 th ou M e11 e12 e13 ∧ (DOk m (10 + i) M ∧ i ≤ bs.length) ∧ Fr e11 ∧ Fr e12 ∧ Fr e13) ⟨_, _, _, _, _, rfl, ⟨hM, Nat.zero_le _⟩, .un, .un, .un⟩ (by
    rintro i x ρ hx ⟨L', M, e11, e12, e13, rfl, ⟨h1, h2⟩, f11, f12, f13⟩
    have hi := (List.getElem?_eq_some_iff.mp hx).1
    rw [List.length_map] at hi
    rw [List.getElem?_map] at hx
    obtain ⟨b, hb', rfl⟩ : ∃ b, bs[i]? = some b ∧ bD b = x := by
      cases q : bs[i]? with
      | none => rw [q] at hx; cases hx
      | some b => rw [q] at hx; exact ⟨b, rfl, Option.some.inj hx⟩
    obtain ⟨L2, M2, e, hM⟩ := nt_turn2 (n := n) hn (L := L') (le := le) (mo := mo) (en := en) (ls := ls) (e7 := e7) (th := th) (ou := ou) f11 f12 f13 h1 (by omega) (hb b (List.mem_of_getElem? hb'))
    exact ⟨_, .inl e, L2, M2, .da .s (.int b.i), .da .s (.int b.j), .da .s (.int b.w), rfl, ⟨hM, by omega⟩, .s, .s, .s⟩)
  rw [List.length_map] at h1
  exact ⟨L', M', e11, e12, e13, e, h1.mono (by omega)⟩
end
end G
set_option maxHeartbeats 8000000
/-! E14: a drawn net is a net. -/
namespace G
open L2
section
variable {n : Nat}
theorem net_ok (hn : 4 ≤ n) {L : List Int} {le mo en : Int} (h1 : 1 ≤ le) (h2 : le ≤ mo) (h3 : mo ≤ 16) (h4 : en ≤ 5) :
    ∃ (L' : List Int) (N : Net), Φ n k__law_net [.da .l (.lst (L.map D.int)), .da .s (.int le), .da .s (.int mo), .da .s (.int en)] = .ok false N.d [.da .l (.lst (L'.map D.int)), .da .s (.int le), .da .s (.int mo), .da .s (.int en)] ∧
      NetOk N ∧ le ≤ N.many ∧ N.many ≤ mo ∧ (N.las.length : Int) ≤ max en 0 ∧ (∀ x ∈ N.las, x.lo ≤ 4 ∧ x.hi ≤ 8) ∧ ∀ b ∈ N.bds, -1000 ≤ b.w ∧ b.w ≤ 1000 := by
  obtain ⟨n, rfl⟩ := Nat.exists_eq_add_of_le' hn
  have n1 : 1 ≤ n + 3 := by omega
  have g0 : 0 < mo - le + 1 := by omega
  have t1 := take_ok n1 (L := L) g0
  have r1 := tkR_0 (L := L) g0
  have r2 := tkR_lt (L := L) g0
  generalize hm : le + tkR L (mo - le + 1) = m at *
  have m1 : 1 ≤ m := by omega
  have m2 : m ≤ 16 := by omega
  obtain ⟨L2, O, eO, pO, zO⟩ := order_ok (n := n + 3) (by omega) (L := tkL L) (m := m) m1 (by omega)
  obtain ⟨mx, hmx⟩ : ∃ mx : Int, mx = (if m - 2 > 1 then m - 2 else 1) := ⟨_, rfl⟩
  obtain ⟨mn, hmn⟩ : ∃ mn : Int, mn = (if mx < en then mx else en) := ⟨_, rfl⟩
  have hmn5 : mn ≤ en := by rw [hmn]; split <;> omega
  obtain ⟨L3, ls, eL, ok, len, ch, rt, sm⟩ := lasts_ok (n := n + 3) (by omega) (L := L2) (O := O) (m := m) (mo := mn) (wi := 4) m1 m2 pO zO (by decide) (by decide) (by omega)
  have LS : LsOk m ls := ⟨ok, fun x hx => by have := sm x hx; omega⟩
  have hll : ls.length ≤ 5 := by omega
  obtain ⟨th, hth⟩ : ∃ th, th = ls.map La.c := ⟨_, rfl⟩
  have e5 := clpF (l := ls) (F := lD) (h := fun x => .int x.c) (ρ := [.da .l (.lst (L3.map D.int)), .da .s (.int le), .da .s (.int mo), .da .s (.int en), .da .s (.int m), .da .s (.tup (ls.map lD)), .un, .un, .un, .un, .un, .un, .un, .un, .un]) (f := c__law_net_5 (GG (n + 3))) (fun x hx => by simp [cturn, wp, lD])
  have hth2 : (ls.map fun x => D.int x.c) = th.map D.int := by rw [hth, List.map_map]; rfl
  rw [hth2] at e5
  obtain ⟨ou, hou⟩ : ∃ ou, ou = (evs1 m).filter fun e => !decide (e ∈ th) := ⟨_, rfl⟩
  have e4 := clpP (l := evs1 m) (F := D.int) (h := D.int) (p := fun e => !decide (e ∈ th)) (ρ := [.da .l (.lst (L3.map D.int)), .da .s (.int le), .da .s (.int mo), .da .s (.int en), .da .s (.int m), .da .s (.tup (ls.map lD)), .da .o (.lst (th.map D.int)), .un, .un, .un, .un, .un, .un, .un, .un]) (f := c__law_net_4 (GG (n + 3))) (fun e he => by
    by_cases c : e ∈ th <;> simp [cturn, wp, p_notin_l, c])
  rw [← hou] at e4
  have houP : ∀ x ∈ ou, 1 ≤ x ∧ x ≤ m - 1 ∧ x ∉ ls.map La.c := fun x hx => by
    rw [hou, List.mem_filter] at hx
    obtain ⟨h5, h6⟩ := hx
    have := evs1_mem.mp h5
    rw [← hth]
    refine ⟨this.1, this.2, ?_⟩
    simpa using h6
  obtain ⟨L4, M, e7, e3, D1, f7⟩ := nt_loop3 (n := n + 3) (by omega) (L := L3) (le := le) (mo := mo) (en := en) (th := th) LS hll houP
  have t3 := take_ok n1 (L := L4) (m := 3) (by decide)
  have r3 := tkR_0 (L := L4) (m := 3) (by decide)
  have r4 := tkR_lt (L := L4) (m := 3) (by decide)
  obtain ⟨L5, bs, eB, bB, bL⟩ := bounds_ok (n := n + 3) (by omega) (L := tkL L4) (m := m) (mo := 1 + m / 3) (lo := tkR L4 3 - 1) (wi := 12) (by omega) (by omega) (by omega) (by omega) (by decide) (by decide) (by omega) (by omega)
  obtain ⟨L6, M', e11, e12, e13, e2, D2⟩ := nt_loop2 (n := n + 3) n1 (L := L5) (le := le) (mo := mo) (en := en) (ls := ls) (e7 := e7) (th := th) (ou := ou) D1 bB (by omega)
  have pm := sort_perm (f := kF) (l := M')
  have es := sorted_dct D2 (by omega) (by decide)
  have e1 := clpF (l := sortK kF M') (F := fun x : Bd => D.tup [.int x.i, .int x.j]) (h := bD) (ρ := ntS L6 le mo en m ls e7 th ou M' e11 e12 e13) (f := c__law_net_1 (GG (n + 3))) (fun x hx => by
    have := idx_mem D2.nd (pm.mem_iff.mp hx)
    simp [cturn, wp, this, bD])
  have l1 : (sortK kF M').length ≤ 10000 := by rw [pm.length_eq]; have := D2.len; omega
  have l2 : ls.length ≤ 10000 := by omega
  have l3 : ou.length ≤ 10000 := by
    have := List.length_filter_le (fun e => !decide (e ∈ th)) (evs1 m)
    rw [← hou, evs1_len] at this
    omega
  have r5 : rngOk 1 m = true := rngOk_s (by omega) (by omega) (by omega) (by omega)
  refine ⟨L6, ⟨m, sortK kF M', ls⟩, ?_, ⟨m1, m2, fun b hb => ?_, ?_, sort_pairs D2 (by omega), ok, hll, ch, rt⟩, (show le ≤ m by omega), (show m ≤ mo by omega), (show (ls.length : Int) ≤ max en 0 by omega), fun x hx => by have := sm x hx; omega, fun b hb => ?_⟩
  · refine Eq.trans (phi_df fs__law_net rfl) ?_
    have l4 : th.length ≤ 10000 := by rw [hth, List.length_map]; omega
    have e3' : flp (f__law_net_3 (GG (n + 3))) (ls.map lD) [.da .l (.lst (L3.map D.int)), .da .s (.int le), .da .s (.int mo), .da .s (.int en), .da .s (.int m), .da .s (.tup (ls.map lD)), .da .o (.lst (th.map D.int)), .un, .da .o (.lst (ou.map D.int)), .da .o (.dct true [] []), .un, .un, .un, .un, .un] = _ := e3
    have hmx' : biD .max2 [.int 1, .int (m - 2)] = some (false, .int mx) := by rw [b_max2, hmx]
    have hmn' : biD .min2 [.int en, .int mx] = some (false, .int mn) := by rw [b_min2, hmn]
    simp [t1, hm, eO, hmx', hmn', eL, wp, bk, e5, l4, r5, rngL_1, e4, l3, e3', t3, p_fdv3, eB, e2, es, e1, l1, Net.d, -b_max2, -b_min2]
  · have := D2.ok b (pm.mem_iff.mp hb)
    obtain ⟨a1, a2, a3, a4, a5, a6, a7⟩ := this
    exact ⟨a1, a2, a3, a4, a5, by omega, by omega⟩
  · show (sortK kF M').length ≤ 60
    rw [pm.length_eq]
    have := D2.len
    omega
  · have := D2.ok b (pm.mem_iff.mp hb)
    exact ⟨this.w0, this.w1⟩
end
end G
set_option maxHeartbeats 8000000
/-! E15: k02's own functions. -/
namespace G
open L2
/-- try .. except: what a handler's end is -/
def hdlR (g : Gx) (i : Nat) (h : Sts) (x : Xc) (ρ1 : List En) : En → Rs Fl
  | .da .l _ => .no
  | _ => (nox (ess g h (ρ1.set i (.xc x)))).bd fun r ρ2 => if noXc (ρ2.set i .un) then .ok r (ρ2.set i .un) else .no
@[simp] theorem hdlR_un {g : Gx} {i : Nat} {h : Sts} {x : Xc} {ρ : List En} : hdlR g i h x ρ .un = (nox (ess g h (ρ.set i (.xc x)))).bd fun r ρ2 => if noXc (ρ2.set i .un) then .ok r (ρ2.set i .un) else .no := rfl
def tryR (g : Gx) (c i : Nat) (h : Sts) : Rs Fl → Rs Fl
  | .ok a ρ => .ok a ρ
  | .ex x ρ => if g.sub x.c c then hdlR g i h x ρ (gt ρ i) else .ex x ρ
  | .no => .no
@[simp] theorem tryR_ok {g : Gx} {c i : Nat} {h : Sts} {a : Fl} {ρ : List En} : tryR g c i h (.ok a ρ) = .ok a ρ := rfl
@[simp] theorem tryR_ex {g : Gx} {c i : Nat} {h : Sts} {x : Xc} {ρ : List En} : tryR g c i h (.ex x ρ) = if g.sub x.c c then hdlR g i h x ρ (gt ρ i) else .ex x ρ := rfl
@[simp] theorem es_try {g : Gx} {b h : Sts} {c i : Nat} {ρ : List En} : es g (.try1 b c (some i) h) ρ = tryR g c i h (ess g b ρ) := by
  show catch' (ess g b ρ) g.sub c _ = _
  cases ess g b ρ with
  | ok a ρ => rfl
  | no => rfl
  | ex x ρ1 =>
    show (if g.sub x.c c = true then _ else _) = _
    rw [tryR_ex]
    split
    · cases gt ρ1 i with
      | un => rfl
      | xc y => rfl
      | da w d => cases w <;> rfl
    · rfl
@[simp] theorem noXc_nil : noXc [] = true := rfl
@[simp] theorem noXc_da {w : Ow} {d : D} {ρ : List En} : noXc (.da w d :: ρ) = noXc ρ := rfl
@[simp] theorem noXc_un {ρ : List En} : noXc (.un :: ρ) = noXc ρ := rfl
section
variable {n : Nat}
theorem law_last_ok (hn : 8 ≤ n) {N : Net} (h : NetOk N) {d : D} (hd : okI d = true) : Φ n k__law_last [.da .s N.d, .da .s d] = .ok false (match d with
    | .int e => fst? (N.due e)
    | _ => .non) [.da .s N.d, .da .s d] := by
  obtain ⟨n, rfl⟩ := Nat.exists_eq_add_of_le' hn
  refine Eq.trans (phi_df fs__law_last rfl) ?_
  have s1 : sub0 c_NoEnd c_NoEnd = true := rfl
  have s2 : sub0 c_NoEnd c_PlanError = true := rfl
  have s3 : sub0 c_NoEnd c_NoNet = false := rfl
  have e := last_of_ok (n := n + 7) (by omega) h hd
  cases d with
  | int i =>
    dsimp only at e ⊢
    cases hq : N.due i with
    | nil =>
      rw [hq] at e
      dsimp only at e
      simp [e, s1, s2, s3, fst?]
    | cons k l =>
      rw [hq] at e
      dsimp only at e
      simp [e, fst?]
  | _ => dsimp only at e ⊢; simp [e, s1, s2, s3]
abbrev laB (N : Net) (fd : List Bd) (e2 e3 e4 e5 : En) : List En := [.da .s N.d, .da .o (.lst (fd.map bD)), e2, e3, e4, e5, .un]
theorem lall_turn {N : Net} {fd : List Bd} {e2 e3 e4 e5 : En} {l : La} (f2 : Fr e2) (f3 : Fr e3) (f4 : Fr e4) (f5 : Fr e5) (hl : fd.length ≤ 5000) :
    f__law_all_2 (GG n) (lD l) (laB N fd e2 e3 e4 e5) = .ok .nx (laB N (fd ++ Net.lb l) (.da .s (.int l.a)) (.da .s (.int l.lo)) (.da .s (.int l.hi)) (.da .s (.int l.c))) := by
  have h1 : szOk (fd.length + 1) = true := szOk_lit (by omega)
  have h2 : szOk (fd.length + 1 + 1) = true := szOk_lit (by omega)
  simp [fturn, lD, stE_fr, f2, f3, f4, f5, h1, h2, Net.lb, bD]
theorem lall_loop {N : Net} (h : NetOk N) : ∃ fd e2 e3 e4 e5, fd = N.bds ++ N.las.flatMap Net.lb ∧ flp (f__law_all_2 (GG n)) (N.las.map lD) (laB N N.bds .un .un .un .un) = .ok .nx (laB N fd e2 e3 e4 e5) := by
  obtain ⟨ρ', e, e2, e3, e4, e5, rfl, _⟩ := flp_inv (f := f__law_all_2 (GG n)) (xs := N.las.map lD) (ρ := laB N N.bds .un .un .un .un)
    (fun i ρ => ∃ e2 e3 e4 e5, ρ = laB N (N.bds ++ (N.las.take i).flatMap Net.lb) e2 e3 e4 e5 ∧ Fr e2 ∧ Fr e3 ∧ Fr e4 ∧ Fr e5) ⟨_, _, _, _, by simp, .un, .un, .un, .un⟩ (by
    rintro i x ρ hx ⟨e2, e3, e4, e5, rfl, f2, f3, f4, f5⟩
    rw [List.getElem?_map] at hx
    obtain ⟨la, hla, rfl⟩ : ∃ la, N.las[i]? = some la ∧ lD la = x := by
      cases q : N.las[i]? with
      | none => rw [q] at hx; cases hx
      | some la => rw [q] at hx; exact ⟨la, rfl, Option.some.inj hx⟩
    refine ⟨_, .inl (lall_turn f2 f3 f4 f5 ?_), .da .s (.int la.a), .da .s (.int la.lo), .da .s (.int la.hi), .da .s (.int la.c), ?_, .s, .s, .s, .s⟩
    · rw [List.length_append, flat_len, List.length_take]
      have := h.bl
      have := h.ll
      omega
    · have ht : N.las.take (i + 1) = N.las.take i ++ [la] := by
        rw [List.take_add_one, hla]; rfl
      rw [ht, List.flatMap_append, List.append_assoc]
      simp)
  rw [List.length_map, List.take_length] at e
  exact ⟨_, e2, e3, e4, e5, rfl, e⟩
theorem law_all_ok (hn : 1 ≤ n) {N : Net} (h : NetOk N) : Φ n k__law_all [.da .s N.d] = .ok true (.lst (N.all.map bD)) [.da .s N.d] := by
  obtain ⟨n, rfl⟩ := Nat.exists_eq_add_of_le' hn
  refine Eq.trans (phi_df fs__law_all rfl) ?_
  obtain ⟨fd, e2, e3, e4, e5, hfd, e⟩ := lall_loop (n := n) h
  have e1 := clpF (l := evs1 N.many) (F := D.int) (h := fun e => bD ⟨e, 0, 0⟩) (ρ := laB N fd e2 e3 e4 e5) (f := c__law_all_1 (GG n)) (fun e he => by simp [cturn, wp, bD])
  have h1 : (evs1 N.many).length ≤ 10000 := by
    rw [evs1_len]
    have := h.m2
    omega
  have h3 : fd.length + (evs1 N.many).length ≤ 10000 := by
    rw [hfd, List.length_append, evs1_len, flat_len]
    have := h.m2
    have := h.bl
    have := h.ll
    omega
  have hr2 : rngOk 1 N.many = true := rng1_ok h
  simp [e, hr2, rngL_1, e1, wp, bk, h1, h3]
  rw [hfd]
  unfold Net.all
  simp
theorem eqbs_ints {l : List Int} : D.eqbs (l.map D.int) (l.map D.int) = true := by
  induction l with
  | nil => rw [List.map_nil]; exact eqbs_nil
  | cons i l ih => rw [List.map_cons, eqbs_cons, ih]; simp
theorem eqb_tints {l : List Int} : D.eqb (.tup (l.map D.int)) (.tup (l.map D.int)) = true := by
  rw [eqb_tup, eqbs_ints]
theorem ne_tints {l : List Int} : prim2 .ne (.tup (l.map D.int)) (.tup (l.map D.int)) = some (false, .bl false) := by
  rw [p_ne cmp_tints cmp_tints, eqb_tints]
  rfl
theorem eqOks_bds {l : List Bd} : D.eqOks (l.map bD) = true := by
  induction l with
  | nil => rw [List.map_nil, D.eqOks]
  | cons b l ih =>
    rw [List.map_cons, D.eqOks, ih]
    have : (bD b).eqOk = true := by
      unfold bD
      rw [D.eqOk]
      exact eqOks_ints (l := [b.i, b.j, b.w])
    rw [this]
    rfl
theorem deps_bds {l : List Bd} : D.deps (l.map bD) ≤ 1 := by
  induction l with
  | nil => rw [List.map_nil, D.deps]; exact Nat.zero_le _
  | cons b l ih =>
    rw [List.map_cons, D.deps]
    have : (bD b).dep = 1 := by
      unfold bD
      rw [D.dep]
      exact congrArg (· + 1) (deps_ints (l := [b.i, b.j, b.w]))
    rw [this]
    omega
theorem cmp_bds {l : List Bd} : (D.tup (l.map bD)).cmpOk = true := by
  unfold D.cmpOk
  rw [D.eqOk, eqOks_bds, D.dep]
  have := deps_bds (l := l)
  simp
  omega
theorem eqbs_bds {l : List Bd} : D.eqbs (l.map bD) (l.map bD) = true := by
  induction l with
  | nil => rw [List.map_nil]; exact eqbs_nil
  | cons b l ih => rw [List.map_cons, eqbs_cons, ih]; simp [bD]
theorem ne_bds {l : List Bd} : prim2 .ne (.tup (l.map bD)) (.tup (l.map bD)) = some (false, .bl false) := by
  rw [p_ne cmp_bds cmp_bds, eqb_tup, eqbs_bds]
  rfl
end
end G
set_option maxHeartbeats 4000000
/-! E16: times of nets, judged; broken bounds. -/
namespace G
open L2
def nnI : D → Bool
  | .int i => decide (0 ≤ i)
  | _ => false
def fst0 : List D → Bool
  | x :: _ => D.eqb x (.int 0)
  | [] => false
def isTimes (m : Int) : D → Bool
  | .tup xs => decide ((xs.length : Int) = m) && (xs.all nnI && fst0 xs)
  | _ => false
def itOk : D → Prop
  | .tup xs => ∀ x ∈ xs, okI x = true
  | _ => True
section
variable {n : Nat}
theorem raw_are_times_ok (hn : 3 ≤ n) {N : Net} (h : NetOk N) {d : D} (hd : okI d = true) (hi : itOk d) : Φ n k_raw_are_times [.da .s N.d, .da .s d] = .ok false (.bl (isTimes N.many d)) [.da .s N.d, .da .s d] := by
  obtain ⟨n, rfl⟩ := Nat.exists_eq_add_of_le' hn
  refine Eq.trans (phi_df fs_raw_are_times rfl) ?_
  have e0 := is_sized_ok (n := n + 2) (by omega) (d := d) (lo := N.many) (hi := N.many) hd
  cases d with
  | tup xs =>
    have hi' : ∀ x ∈ xs, okI x = true := hi
    by_cases c : (xs.length : Int) = N.many
    · have e1 := clpF (l := xs) (F := fun x => x) (h := fun x => .bl (nnI x)) (ρ := [.da .s N.d, .da .s (.tup xs), .un]) (f := c_raw_are_times_1 (GG (n + 2))) (fun x hx => by
        have := is_int_ok (n := n + 2) (by omega) (hi' x hx)
        cases x <;> simp [cturn, wp, this, nnI, isInt])
      rw [List.map_id'] at e1
      have m2 := h.m2
      have m1 := h.m1
      have l1 : xs.length ≤ 10000 := by omega
      have c1 : N.many ≤ (xs.length : Int) := by omega
      have c2 : (xs.length : Int) ≤ N.many := by omega
      have e2 := b_allF (l := xs) (p := nnI)
      simp only [isSized_tup, decide_eq_true c1, decide_eq_true c2, Bool.and_self] at e0
      have hx : isTimes N.many (.tup xs) = (xs.all nnI && fst0 xs) := by
        show (decide ((xs.length : Int) = N.many) && _) = _
        rw [decide_eq_true c]
        rfl
      rw [hx]
      by_cases ca : xs.all nnI = true
      · have hx0 : ∃ i, idxD (.tup xs) (.int 0) = some (.int i) ∧ fst0 xs = decide (i = 0) := by
          cases xs with
          | nil => simp at c; omega
          | cons x xs =>
            have := List.all_eq_true.mp ca x List.mem_cons_self
            cases x <;> first | exact ⟨_, idx_0, rfl⟩ | cases this
        obtain ⟨i, e3, e4⟩ := hx0
        rw [ca] at e2 ⊢
        rw [e4]
        simp [e0, wp, bk, e1, l1, e2, e3]
      · simp only [Bool.not_eq_true] at ca
        rw [ca] at e2 ⊢
        simp [e0, wp, bk, e1, l1, e2]
    · have c1 : isSized N.many N.many (.tup xs) = false := by
        rw [isSized_tup]
        simp only [Bool.and_eq_false_iff, decide_eq_false_iff_not]
        omega
      rw [c1] at e0
      have : isTimes N.many (.tup xs) = false := by
        show (decide ((xs.length : Int) = N.many) && _) = _
        rw [decide_eq_false c]
        rfl
      rw [this]
      simp [e0]
  | _ => simp [e0, isSized, isTimes]
theorem are_times_ok (hn : 7 ≤ n) {N : Net} (h : NetOk N) {d : D} (hd : okI d = true) (hi : itOk d) : Φ n k_are_times [.da .s N.d, .da .s d] = .ok false (.bl (isTimes N.many d)) [.da .s N.d, .da .s d] := by
  obtain ⟨n, rfl⟩ := Nat.exists_eq_add_of_le' hn
  refine Eq.trans (phi_df fs_are_times rfl) ?_
  simp [check_net_ok, h, raw_are_times_ok, hd, hi]
theorem check_times_ok (hn : 7 ≤ n) {N : Net} (h : NetOk N) {d : D} (hd : okI d = true) (hi : itOk d) (ht : isTimes N.many d = true) : Φ n k_check_times [.da .s N.d, .da .s d] = .ok false .non [.da .s N.d, .da .s d] := by
  obtain ⟨n, rfl⟩ := Nat.exists_eq_add_of_le' hn
  refine Eq.trans (phi_df fs_check_times rfl) ?_
  simp [check_net_ok, h, raw_are_times_ok, hd, hi, ht]
theorem check_times_no (hn : 7 ≤ n) {N : Net} (h : NetOk N) {d : D} (hd : okI d = true) (hi : itOk d) (ht : isTimes N.many d = false) : Φ n k_check_times [.da .s N.d, .da .s d] = .ex ⟨c_NoTimes, []⟩ [.da .s N.d, .da .s d] := by
  obtain ⟨n, rfl⟩ := Nat.exists_eq_add_of_le' hn
  refine Eq.trans (phi_df fs_check_times rfl) ?_
  simp [check_net_ok, h, raw_are_times_ok, hd, hi, ht]
/-- a lent list is no net -/
theorem is_sized_l (hn : 1 ≤ n) {xs : List D} {lo hi : Int} : Φ n k_is_sized [.da .l (.lst xs), .da .s (.int lo), .da .s (.int hi)] = .ok false (.bl false) [.da .l (.lst xs), .da .s (.int lo), .da .s (.int hi)] := by
  obtain ⟨n, rfl⟩ := Nat.exists_eq_add_of_le' hn
  refine Eq.trans (phi_df fs_is_sized rfl) ?_
  simp [isiD]
theorem is_net_l (hn : 2 ≤ n) {xs : List D} : Φ n k_is_net [.da .l (.lst xs)] = .ok false (.bl false) [.da .l (.lst xs)] := by
  obtain ⟨n, rfl⟩ := Nat.exists_eq_add_of_le' hn
  refine Eq.trans (phi_df fs_is_net rfl) ?_
  simp [is_sized_l]
theorem check_net_l (hn : 3 ≤ n) {xs : List D} : Φ n k_check_net [.da .l (.lst xs)] = .ex ⟨c_NoNet, []⟩ [.da .l (.lst xs)] := by
  obtain ⟨n, rfl⟩ := Nat.exists_eq_add_of_le' hn
  refine Eq.trans (phi_df fs_check_net rfl) ?_
  simp [is_net_l]
theorem check_times_l (hn : 4 ≤ n) {xs : List D} {e : D} : Φ n k_check_times [.da .l (.lst xs), .da .s e] = .ex ⟨c_NoNet, []⟩ [.da .l (.lst xs), .da .s e] := by
  obtain ⟨n, rfl⟩ := Nat.exists_eq_add_of_le' hn
  refine Eq.trans (phi_df fs_check_times rfl) ?_
  simp [check_net_l]
/-! the three that ask -/
def askL : List Nat := [k_broken, k_is_kept, k_lengths_of]
theorem ask_no (hn : 8 ≤ n) {k : Nat} (hk : k ∈ askL) {N : Net} (h : NetOk N) {d : D} (hd : okI d = true) (hi : itOk d) (ht : isTimes N.many d = false) : Φ n k [.da .s N.d, .da .s d] = .ex ⟨c_NoTimes, []⟩ [.da .s N.d, .da .s d] := by
  obtain ⟨n, rfl⟩ := Nat.exists_eq_add_of_le' hn
  have e := check_times_no (n := n + 7) (by omega) h hd hi ht
  simp only [askL, List.mem_cons, List.not_mem_nil, or_false] at hk
  rcases hk with rfl | rfl | rfl
  · refine Eq.trans (phi_df fs_broken rfl) ?_
    simp [e]
  · refine Eq.trans (phi_df fs_is_kept rfl) ?_
    simp [e]
  · refine Eq.trans (phi_df fs_lengths_of rfl) ?_
    simp [e]
theorem ask_l (hn : 8 ≤ n) {k : Nat} (hk : k ∈ askL) {xs : List D} {d : D} : Φ n k [.da .l (.lst xs), .da .s d] = .ex ⟨c_NoNet, []⟩ [.da .l (.lst xs), .da .s d] := by
  obtain ⟨n, rfl⟩ := Nat.exists_eq_add_of_le' hn
  have e := check_times_l (n := n + 7) (by omega) (xs := xs) (e := d)
  simp only [askL, List.mem_cons, List.not_mem_nil, or_false] at hk
  rcases hk with rfl | rfl | rfl
  · refine Eq.trans (phi_df fs_broken rfl) ?_
    simp [e]
  · refine Eq.trans (phi_df fs_is_kept rfl) ?_
    simp [e]
  · refine Eq.trans (phi_df fs_lengths_of rfl) ?_
    simp [e]
theorem fnS_s {i k : Nat} {ρ : List En} (h : gt ρ i = .da .s (.fn k)) : fnS i ρ = .ok k ρ := by
  unfold fnS
  rw [h]
theorem mt_cnt {x y : Bool} : mtD .count (.lst [.bl x, .bl y]) [.bl true] = some (false, .int ((if x then 1 else 0) + (if y then 1 else 0))) := by
  cases x <;> cases y <;> rfl
theorem mt_idx0 {y : Bool} : mtD .index (.lst [.bl true, .bl y]) [.bl true] = some (false, .int 0) := by
  cases y <;> rfl
theorem mt_idx1 : mtD .index (.lst [.bl false, .bl true]) [.bl true] = some (false, .int 1) := rfl
@[simp] theorem mtK_c {xs : List D} : mtK .count (.lst xs) = true := rfl
@[simp] theorem mtK_i {xs : List D} : mtK .index (.lst xs) = true := rfl
@[simp] theorem idx_l1 {x y : D} {xs : List D} : idxD (.lst (x :: y :: xs)) (.int 1) = some y := idx_natl (i := 1) rfl
/-- what an exception's handler tells -/
theorem word_no (hn : 9 ≤ n) {k : Nat} (hk : k ∈ askL) {N : Net} (h : NetOk N) {d : D} (hd : okI d = true) (hi : itOk d) (ht : isTimes N.many d = false) : Φ n k__law_word [.da .s (.fn k), .da .s N.d, .da .s d] = .ok false (.str "times") [.da .s (.fn k), .da .s N.d, .da .s d] := by
  obtain ⟨n, rfl⟩ := Nat.exists_eq_add_of_le' hn
  refine Eq.trans (phi_df fs__law_word rfl) ?_
  have e := ask_no (n := n + 8) (by omega) hk h hd hi ht
  have s1 : sub0 c_NoTimes c_NoTimes = true := rfl
  have s2 : sub0 c_NoTimes c_PlanError = true := rfl
  have s3 : sub0 c_NoTimes c_NoNet = false := rfl
  simp [fnS_s, e, s1, s2, s3, mt_cnt, mt_idx0, mt_idx1]
theorem word_l (hn : 9 ≤ n) {k : Nat} (hk : k ∈ askL) {xs : List D} {d : D} : Φ n k__law_word [.da .s (.fn k), .da .o (.lst xs), .da .s d] = .ok false (.str "net") [.da .s (.fn k), .da .o (.lst xs), .da .s d] := by
  obtain ⟨n, rfl⟩ := Nat.exists_eq_add_of_le' hn
  refine Eq.trans (phi_df fs__law_word rfl) ?_
  have e := ask_l (n := n + 8) (by omega) hk (xs := xs) (d := d)
  have s1 : sub0 c_NoNet c_NoTimes = false := rfl
  have s2 : sub0 c_NoNet c_PlanError = true := rfl
  have s3 : sub0 c_NoNet c_NoNet = true := rfl
  simp [fnS_s, e, s1, s2, s3, mt_cnt, mt_idx0, mt_idx1]
end
end G
set_option maxHeartbeats 4000000
/-! E17: times: lengths, broken bounds. -/
namespace G
open L2
abbrev tmD (ts : List Int) : D := .tup (ts.map D.int)
structure TmOk (m : Int) (ts : List Int) : Prop where
  len : (ts.length : Int) = m
  nn : ∀ t ∈ ts, 0 ≤ t
  hd : ts.head? = some 0
def tg (ts : List Int) (i : Int) : Int := ts.getD i.toNat 0
theorem idx_t {ts : List Int} {i : Int} (h0 : 0 ≤ i) (h1 : i < ts.length) : idxD (tmD ts) (.int i) = some (.int (tg ts i)) := by
  obtain ⟨k, rfl⟩ := Int.eq_ofNat_of_zero_le h0
  have hk : k < ts.length := by omega
  refine idx_nat ?_
  rw [List.getElem?_map, List.getElem?_eq_getElem hk]
  unfold tg
  simp [hk]
theorem tm_items {ts : List Int} : itOk (tmD ts) := fun x hx => by
  obtain ⟨i, -, rfl⟩ := List.mem_map.mp hx
  rfl
theorem tm_is {m : Int} {ts : List Int} (h : TmOk m ts) : isTimes m (tmD ts) = true := by
  show (decide (((ts.map D.int).length : Int) = m) && ((ts.map D.int).all nnI && fst0 (ts.map D.int))) = true
  have h1 : (ts.map D.int).all nnI = true := by
    rw [List.all_map, List.all_eq_true]
    intro t ht
    exact decide_eq_true (h.nn t ht)
  have h2 : fst0 (ts.map D.int) = true := by
    have := h.hd
    cases ts with
    | nil => cases this
    | cons t ts => cases this; rfl
  rw [h1, h2, List.length_map, decide_eq_true h.len]
  rfl
/-- ranges and numbers -/
def atP {α : Type} (p : α → Bool) (l : List α) (k : Nat) : Bool := match l[k]? with
  | some x => p x
  | none => false
theorem atP_some {α : Type} {p : α → Bool} {l : List α} {k : Nat} {x : α} (h : l[k]? = some x) : atP p l k = p x := by
  unfold atP
  rw [h]
theorem rng_zip {α : Type} {p : α → Bool} (l : List α) : (List.range l.length).filter (atP p l) = (l.zipIdx.filter fun q => p q.1).map (·.2) := by
  have key : ∀ (l : List α) (r : List α), (List.range' r.length l.length).filter (fun k => match (r ++ l)[k]? with | some x => p x | none => false) = ((l.zipIdx r.length).filter fun q => p q.1).map (·.2) := by
    intro l
    induction l with
    | nil => intro r; rfl
    | cons x l ih =>
      intro r
      have h1 := ih (r ++ [x])
      rw [List.length_append, List.length_singleton, List.append_assoc, List.singleton_append] at h1
      rw [List.length_cons, List.range'_succ, List.zipIdx_cons, List.filter_cons, List.filter_cons]
      have h2 : (r ++ x :: l)[r.length]? = some x := by
        rw [List.getElem?_append_right (Nat.le_refl _), Nat.sub_self]
        rfl
      rw [h2]
      dsimp only
      by_cases c : p x = true
      · rw [if_pos c, if_pos c, List.map_cons, h1]
      · rw [if_neg c, if_neg c, h1]
  have := key l []
  rw [List.range_eq_range']
  exact this
def bkP (ts : List Int) (b : Bd) : Bool := decide (b.w < tg ts b.j - tg ts b.i)
def Net.brk (N : Net) (ts : List Int) : List Nat := (N.all.zipIdx.filter fun p => bkP ts p.1).map (·.2)
theorem all_in {N : Net} (h : NetOk N) {b : Bd} (hb : b ∈ N.all) : (0 ≤ b.i ∧ b.i ≤ N.many - 1) ∧ 0 ≤ b.j ∧ b.j ≤ N.many - 1 := by
  have := h.m1
  unfold Net.all at hb
  rw [List.mem_append, List.mem_append] at hb
  rcases hb with (hb | hb) | hb
  · have := h.b b hb
    exact ⟨⟨this.i0, this.i1⟩, this.j0, this.j1⟩
  · obtain ⟨l, hl, hb⟩ := List.mem_flatMap.mp hb
    have := h.l l hl
    have a0 := this.a0
    have a1 := this.a1
    have c0 := this.c0
    have c1 := this.c1
    simp only [Net.lb, List.mem_cons, List.not_mem_nil, or_false] at hb
    rcases hb with rfl | rfl <;> dsimp only <;> omega
  · obtain ⟨e, he, rfl⟩ := List.mem_map.mp hb
    have := evs1_mem.mp he
    dsimp only
    omega
theorem all_len {N : Net} (h : NetOk N) : N.all.length ≤ 100 := by
  unfold Net.all
  rw [List.length_append, List.length_append, flat_len, List.length_map, evs1_len]
  have := h.bl
  have := h.ll
  have := h.m2
  omega
section
variable {n : Nat}
abbrev rbS (N : Net) (ts : List Int) (fd : List Nat) (e3 e4 e5 e6 : En) : List En := [.da .s N.d, .da .s (tmD ts), .da .o (.lst (fd.map fun k : Nat => D.int k)), e3, e4, e5, e6]
theorem rb_turn {N : Net} (h : NetOk N) {ts : List Int} (ht : TmOk N.many ts) {fd : List Nat} {e3 e4 e5 e6 : En} {b : Bd} {k : Nat} (f3 : Fr e3) (f4 : Fr e4) (f5 : Fr e5) (f6 : Fr e6) (hb : b ∈ N.all) (hl : fd.length ≤ 5000) :
    f_raw_broken_1 (GG n) (.tup [.int k, bD b]) (rbS N ts fd e3 e4 e5 e6) = .ok .nx (rbS N ts (fd ++ if bkP ts b then [k] else []) (.da .s (.int k)) (.da .s (.int b.i)) (.da .s (.int b.j)) (.da .s (.int b.w))) := by
  have hin := all_in h hb
  have hlen := ht.len
  have i1 := idx_t (ts := ts) (i := b.i) hin.1.1 (by omega)
  have i2 := idx_t (ts := ts) (i := b.j) hin.2.1 (by omega)
  have hl' : fd.length + 1 ≤ 10000 := by omega
  by_cases c : b.w < tg ts b.j - tg ts b.i
  · simp [fturn, bD, stE_fr, f3, f4, f5, f6, i1, i2, c, bkP, hl']
  · simp [fturn, bD, stE_fr, f3, f4, f5, f6, i1, i2, c, bkP, hl']
theorem raw_broken_ok (hn : 2 ≤ n) {N : Net} (h : NetOk N) {ts : List Int} (ht : TmOk N.many ts) : Φ n k_raw_broken [.da .s N.d, .da .s (tmD ts)] = .ok false (.tup ((N.brk ts).map fun k : Nat => D.int k)) [.da .s N.d, .da .s (tmD ts)] := by
  obtain ⟨n, rfl⟩ := Nat.exists_eq_add_of_le' hn
  refine Eq.trans (phi_df fs_raw_broken rfl) ?_
  have ea := raw_all_bounds_ok (n := n + 1) (by omega) h
  have al := all_len h
  obtain ⟨ρ', e, e3, e4, e5, e6, rfl, _⟩ := flp_inv (f := f_raw_broken_1 (GG (n + 1))) (xs := N.all.zipIdx.map fun p => D.tup [.int p.2, bD p.1]) (ρ := rbS N ts [] .un .un .un .un)
    (fun i ρ => ∃ e3 e4 e5 e6, ρ = rbS N ts (((N.all.zipIdx.take i).filter fun p => bkP ts p.1).map (·.2)) e3 e4 e5 e6 ∧ Fr e3 ∧ Fr e4 ∧ Fr e5 ∧ Fr e6) ⟨_, _, _, _, rfl, .un, .un, .un, .un⟩ (by
    rintro i x ρ hx ⟨e3, e4, e5, e6, rfl, f3, f4, f5, f6⟩
    rw [List.getElem?_map] at hx
    obtain ⟨p, hp, rfl⟩ : ∃ p, N.all.zipIdx[i]? = some p ∧ D.tup [.int p.2, bD p.1] = x := by
      cases q : N.all.zipIdx[i]? with
      | none => rw [q] at hx; cases hx
      | some p => rw [q] at hx; exact ⟨p, rfl, Option.some.inj hx⟩
    have hm : p.1 ∈ N.all := by
      obtain ⟨y, k⟩ := p
      exact (List.mem_zipIdx' (List.mem_of_getElem? hp)).2 ▸ List.getElem_mem _
    refine ⟨_, .inl (rb_turn h ht f3 f4 f5 f6 hm ?_), .da .s (.int p.2), .da .s (.int p.1.i), .da .s (.int p.1.j), .da .s (.int p.1.w), ?_, .s, .s, .s, .s⟩
    · rw [List.length_map]
      have := List.length_filter_le (fun p : Bd × Nat => bkP ts p.1) (N.all.zipIdx.take i)
      have := List.length_take_le i N.all.zipIdx
      have := List.length_take (i := i) (l := N.all.zipIdx)
      rw [List.length_zipIdx] at this
      omega
    · have hT : N.all.zipIdx.take (i + 1) = N.all.zipIdx.take i ++ [p] := by
        rw [List.take_add_one, hp]; rfl
      rw [hT, List.filter_append, List.map_append]
      congr 2
      cases c : bkP ts p.1 <;> simp [c])
  rw [List.length_map, List.take_length] at e
  have e' : flp (f_raw_broken_1 (GG (n + 1))) (enumD (N.all.map bD) 0) [.da .s N.d, .da .s (tmD ts), .da .o (.lst []), .un, .un, .un, .un] = .ok .nx (rbS N ts (N.brk ts) e3 e4 e5 e6) := by
    rw [enumD_map]
    exact e
  simp [ea, e']
theorem law_broken_ok (hn : 3 ≤ n) {N : Net} (h : NetOk N) {ts : List Int} (ht : TmOk N.many ts) : Φ n k__law_broken [.da .s N.d, .da .s (tmD ts)] = .ok false (.tup ((N.brk ts).map fun k : Nat => D.int k)) [.da .s N.d, .da .s (tmD ts)] := by
  obtain ⟨n, rfl⟩ := Nat.exists_eq_add_of_le' hn
  refine Eq.trans (phi_df fs__law_broken rfl) ?_
  have ea := law_all_ok (n := n + 2) (by omega) h
  have al := all_len h
  have hlen := ht.len
  have e1 := clpP (l := List.range N.all.length) (F := fun k : Nat => D.int (0 + k)) (h := fun k : Nat => D.int k) (p := atP (bkP ts) N.all) (ρ := [.da .s N.d, .da .s (tmD ts), .da .o (.lst (N.all.map bD)), .un]) (f := c__law_broken_1 (GG (n + 2))) (fun k hk => by
    have hk' := List.mem_range.mp hk
    have hg : N.all[k]? = some N.all[k] := List.getElem?_eq_getElem hk'
    have hi : idxD (.lst (N.all.map bD)) (.int (k : Int)) = some (bD N.all[k]) := idx_natl (by rw [List.getElem?_map, hg]; rfl)
    have hin := all_in h (List.getElem_mem hk')
    rw [atP_some hg]
    generalize N.all[k] = b at *
    have i1 := idx_t (ts := ts) (i := b.i) hin.1.1 (by omega)
    have i2 := idx_t (ts := ts) (i := b.j) hin.2.1 (by omega)
    have j0 : idxD (bD b) (.int 0) = some (.int b.i) := idx_0
    have j1 : idxD (bD b) (.int 1) = some (.int b.j) := idx_1
    have j2 : idxD (bD b) (.int 2) = some (.int b.w) := idx_2
    by_cases c : b.w < tg ts b.j - tg ts b.i <;> simp [cturn, wp, hi, i1, i2, j0, j1, j2, c, bkP])
  rw [rng_zip] at e1
  have e2 : clp (c__law_broken_1 (GG (n + 2))) (rngL 0 N.all.length) [.da .s N.d, .da .s (tmD ts), .da .o (.lst (N.all.map bD)), .un] = .ok ((N.brk ts).map fun k : Nat => D.int k) [.da .s N.d, .da .s (tmD ts), .da .o (.lst (N.all.map bD)), .un] := by
    have : rngL 0 N.all.length = (List.range N.all.length).map fun k : Nat => D.int (0 + k) := by
      unfold rngL
      simp
    rw [this]
    exact e1
  have l1 : (N.brk ts).length ≤ 10000 := by
    unfold Net.brk
    rw [List.length_map]
    have := List.length_filter_le (fun p : Bd × Nat => bkP ts p.1) N.all.zipIdx
    rw [List.length_zipIdx] at this
    omega
  have r1 : rngOk 0 N.all.length = true := rngOk_s (by omega) (by omega) (by omega) (by omega)
  generalize N.brk ts = B at *
  simp [ea, e2, r1, wp, bk, l1]
theorem broken_ok (hn : 8 ≤ n) {N : Net} (h : NetOk N) {ts : List Int} (ht : TmOk N.many ts) : Φ n k_broken [.da .s N.d, .da .s (tmD ts)] = .ok false (.tup ((N.brk ts).map fun k : Nat => D.int k)) [.da .s N.d, .da .s (tmD ts)] := by
  obtain ⟨n, rfl⟩ := Nat.exists_eq_add_of_le' hn
  refine Eq.trans (phi_df fs_broken rfl) ?_
  have e1 := check_times_ok (n := n + 7) (by omega) h (d := tmD ts) rfl tm_items (tm_is ht)
  have e2 := raw_broken_ok (n := n + 7) (by omega) h ht
  simp [e1, e2]
theorem is_kept_ok (hn : 8 ≤ n) {N : Net} (h : NetOk N) {ts : List Int} (ht : TmOk N.many ts) : Φ n k_is_kept [.da .s N.d, .da .s (tmD ts)] = .ok false (.bl (decide (((N.brk ts).length : Int) = 0))) [.da .s N.d, .da .s (tmD ts)] := by
  obtain ⟨n, rfl⟩ := Nat.exists_eq_add_of_le' hn
  refine Eq.trans (phi_df fs_is_kept rfl) ?_
  have e1 := check_times_ok (n := n + 7) (by omega) h (d := tmD ts) rfl tm_items (tm_is ht)
  have e2 := raw_broken_ok (n := n + 7) (by omega) h ht
  generalize N.brk ts = B at *
  simp [e1, e2]
def lenI (ts : List Int) (l : La) : Int := tg ts l.c - tg ts l.a
theorem lengths_ok (hn : 8 ≤ n) {N : Net} (h : NetOk N) {ts : List Int} (ht : TmOk N.many ts) : Φ n k_lengths_of [.da .s N.d, .da .s (tmD ts)] = .ok false (.tup ((N.las.map (lenI ts)).map D.int)) [.da .s N.d, .da .s (tmD ts)] := by
  obtain ⟨n, rfl⟩ := Nat.exists_eq_add_of_le' hn
  refine Eq.trans (phi_df fs_lengths_of rfl) ?_
  have e1 := check_times_ok (n := n + 7) (by omega) h (d := tmD ts) rfl tm_items (tm_is ht)
  have hlen := ht.len
  have e2 := clpF (l := N.las) (F := lD) (h := fun l => D.int (lenI ts l)) (ρ := [.da .s N.d, .da .s (tmD ts), .un, .un, .un, .un]) (f := c_lengths_of_1 (GG (n + 7))) (fun l hl => by
    have q := h.l l hl
    have c0 := q.c0
    have a1 := q.a1
    have c1 := q.c1
    have i1 := idx_t (ts := ts) (i := l.a) q.a0 (by omega)
    have i2 := idx_t (ts := ts) (i := l.c) (by omega) (by omega)
    simp [cturn, wp, lD, i1, i2, lenI])
  have hm : (N.las.map fun l => D.int (lenI ts l)) = (N.las.map (lenI ts)).map D.int := by rw [List.map_map]; rfl
  have l1 : N.las.length ≤ 10000 := by have := h.ll; omega
  rw [hm] at e2
  have l2 : (N.las.map (lenI ts)).length ≤ 10000 := by rw [List.length_map]; exact l1
  generalize N.las.map (lenI ts) = R at *
  simp [e1, e2, wp, bk, l2]
end
end G
set_option maxHeartbeats 4000000
/-! E18: things that are no times. -/
namespace G
open L2
theorem sl_to {xs : List D} {k : Nat} : slD (.tup xs) none (some (k : Int)) = some (false, .tup (xs.take k)) := by
  show some (false, D.tup (cutL xs none (some (k : Int)))) = _
  rw [cut_to]
theorem sl_fromS {xs : List D} {k : Nat} : slD (.tup xs) (some ((k : Int) + 1)) none = some (false, .tup (xs.drop (k + 1))) := by
  show some (false, D.tup (cutL xs (some ((k + 1 : Nat) : Int)) none)) = _
  rw [cut_from]
theorem sl_last {xs : List D} (h : 1 ≤ xs.length) : slD (.tup xs) none (some (-1)) = some (false, .tup (xs.take (xs.length - 1))) := by
  show some (false, D.tup (cutL xs none (some (-1)))) = _
  unfold cutL
  have : HT.sIx xs.length xs.length (some (-1)) = xs.length - 1 := by
    unfold HT.sIx
    simp
    omega
  rw [HT.sIx_none, this, List.drop_zero, Nat.sub_zero]
structure BadT (m : Int) (d : D) : Prop where
  ok : okI d = true
  it : itOk d
  no : isTimes m d = false
theorem bad_len {m : Int} {xs : List D} (h : ∀ x ∈ xs, okI x = true) (hl : (xs.length : Int) ≠ m) : BadT m (.tup xs) := ⟨rfl, h, by
  show (decide _ && _) = false
  rw [decide_eq_false hl]
  rfl⟩
theorem bad_mid {m : Int} {a b : List D} {x : D} (ha : ∀ x ∈ a, okI x = true) (hb : ∀ x ∈ b, okI x = true) (hx : okI x = true) (hn : nnI x = false) : BadT m (.tup (a ++ x :: b)) := ⟨rfl, (fun y hy => by
  rcases List.mem_append.mp hy with hy | hy
  · exact ha y hy
  · rcases List.mem_cons.mp hy with rfl | hy
    · exact hx
    · exact hb y hy : ∀ y ∈ a ++ x :: b, okI y = true), by
  show (decide _ && ((a ++ x :: b).all nnI && _)) = false
  have : (a ++ x :: b).all nnI = false := by
    rw [List.all_append, List.all_cons, hn]
    simp
  rw [this]
  simp⟩
theorem ok_ints {ts : List Int} : ∀ x ∈ ts.map D.int, okI x = true := fun x hx => by
  obtain ⟨i, -, rfl⟩ := List.mem_map.mp hx
  rfl
theorem ok_take {xs : List D} {k : Nat} (h : ∀ x ∈ xs, okI x = true) : ∀ x ∈ xs.take k, okI x = true := fun x hx => h x (List.mem_of_mem_take hx)
theorem ok_drop {xs : List D} {k : Nat} (h : ∀ x ∈ xs, okI x = true) : ∀ x ∈ xs.drop k, okI x = true := fun x hx => h x (List.mem_of_mem_drop hx)
section
variable {n : Nat}
def flg1 (i : Int) : List D := if 0 ≤ i ∧ i ≤ 1 then [.bl (decide (i = 1))] else []
theorem flagged_int (hn : 1 ≤ n) {i : Int} : Φ n k__law_flagged [.da .s (.int i)] = .ok true (.lst (flg1 i)) [.da .s (.int i)] := by
  obtain ⟨n, rfl⟩ := Nat.exists_eq_add_of_le' hn
  refine Eq.trans (phi_df fs__law_flagged rfl) ?_
  unfold flg1
  by_cases h0 : 0 ≤ i
  · by_cases h1 : i ≤ 1 <;> simp [isiD, h0, h1]
  · simp [isiD, h0]
abbrev fgS (ts : List Int) (out : List D) (e2 e3 : En) : List En := [.da .s (tmD ts), .da .o (.lst out), e2, e3]
theorem fg_turn1 {m : Int} {ts : List Int} (hl : ts.length ≤ 100) {out : List D} {k : Nat} {b : Bool} {e3 : En} (f3 : Fr e3) (ho : out.length ≤ 5000) :
    f__law_flagged_1 (GG n) (.bl b) (fgS ts out (.da .s (.int k)) e3) = .ok .nx (fgS ts (out ++ [.tup ((ts.map D.int).take k ++ .bl b :: (ts.map D.int).drop (k + 1))]) (.da .s (.int k)) (.da .s (.bl b))) := by
  have l1 : ((ts.map D.int).take k).length ≤ (ts.map D.int).length := by rw [List.length_take]; omega
  have l2 : ((ts.map D.int).drop (k + 1)).length ≤ (ts.map D.int).length := by rw [List.length_drop]; omega
  have l0 : (ts.map D.int).length ≤ 100 := by rw [List.length_map]; exact hl
  have s1 : slD (tmD ts) none (some (k : Int)) = _ := sl_to (xs := ts.map D.int) (k := k)
  have s2 : slD (tmD ts) (some ((k : Int) + 1)) none = _ := sl_fromS (xs := ts.map D.int) (k := k)
  generalize (ts.map D.int).take k = xa at *
  generalize (ts.map D.int).drop (k + 1) = xb at *
  have l3 : xa.length + 1 ≤ 10000 := by omega
  have l4 : xa.length + 1 + xb.length ≤ 10000 := by omega
  have l5 : out.length + 1 ≤ 10000 := by omega
  simp [fturn, stE_fr, f3, s1, s2, l3, l4, l5]
theorem fg_turn2 (hn : 1 ≤ n) {m : Int} {ts : List Int} (hl : ts.length ≤ 100) {out : List D} {k : Nat} {e2 e3 : En} (hk : k < ts.length) (f2 : Fr e2) (f3 : Fr e3) (ho : out.length ≤ k) (hB : ∀ d ∈ out, BadT m d) :
    ∃ out' e2' e3', f__law_flagged_2 (GG n) (.int k) (fgS ts out e2 e3) = .ok .nx (fgS ts out' e2' e3') ∧ Fr e2' ∧ Fr e3' ∧ out'.length ≤ k + 1 ∧ ∀ d ∈ out', BadT m d := by
  have i1 := idx_t (ts := ts) (i := (k : Int)) (by omega) (by omega)
  have e1 := flagged_int (n := n) hn (i := tg ts k)
  by_cases c : 0 ≤ tg ts k ∧ tg ts k ≤ 1
  · have e2' := fg_turn1 (n := n) (m := m) hl (out := out) (k := k) (b := decide (tg ts k = 1)) (e3 := e3) f3 (by omega)
    refine ⟨out ++ [.tup ((ts.map D.int).take k ++ .bl (decide (tg ts k = 1)) :: (ts.map D.int).drop (k + 1))], .da .s (.int k), .da .s (.bl (decide (tg ts k = 1))), ?_, .s, .s, ?_, ?_⟩
    · have hf : flg1 (tg ts k) = [.bl (decide (tg ts k = 1))] := by
        unfold flg1
        rw [if_pos c]
      rw [hf] at e1
      have e3' : flp (f__law_flagged_1 (GG n)) [.bl (decide (tg ts k = 1))] (fgS ts out (.da .s (.int k)) e3) = .ok .nx (fgS ts (out ++ [.tup ((ts.map D.int).take k ++ .bl (decide (tg ts k = 1)) :: (ts.map D.int).drop (k + 1))]) (.da .s (.int k)) (.da .s (.bl (decide (tg ts k = 1))))) := by
        show (f__law_flagged_1 (GG n) _ _).bd _ = _
        rw [e2']
        rfl
      generalize (D.tup ((ts.map D.int).take k ++ .bl (decide (tg ts k = 1)) :: (ts.map D.int).drop (k + 1))) = X at *
      generalize D.bl (decide (tg ts k = 1)) = B at *
      simp [fturn, stE_fr, f2, i1, e1, e3']
    · rw [List.length_append, List.length_singleton]; omega
    · intro d hd
      rcases List.mem_append.mp hd with hd | hd
      · exact hB d hd
      · rw [List.mem_singleton] at hd
        rw [hd]
        exact bad_mid (ok_take ok_ints) (ok_drop ok_ints) rfl rfl
  · refine ⟨out, .da .s (.int k), e3, ?_, .s, f3, by omega, hB⟩
    have hf : flg1 (tg ts k) = [] := by
      unfold flg1
      rw [if_neg c]
    rw [hf] at e1
    have e3' : flp (f__law_flagged_1 (GG n)) [] (fgS ts out (.da .s (.int k)) e3) = .ok .nx (fgS ts out (.da .s (.int k)) e3) := rfl
    simp [fturn, stE_fr, f2, i1, e1, e3']
theorem flagged_ok (hn : 2 ≤ n) {m : Int} {ts : List Int} (hl : ts.length ≤ 100) : ∃ out, Φ n k__law_flagged [.da .s (tmD ts)] = .ok true (.lst out) [.da .s (tmD ts)] ∧ out.length ≤ ts.length ∧ ∀ d ∈ out, BadT m d := by
  obtain ⟨n, rfl⟩ := Nat.exists_eq_add_of_le' hn
  obtain ⟨ρ', e, out, e2, e3, rfl, h1, h2, h3, h4⟩ := flp_inv (f := f__law_flagged_2 (GG (n + 1))) (xs := rngL 0 ts.length) (ρ := fgS ts [] .un .un)
    (fun i ρ => ∃ out e2 e3, ρ = fgS ts out e2 e3 ∧ Fr e2 ∧ Fr e3 ∧ out.length ≤ i ∧ ∀ d ∈ out, BadT m d) ⟨_, _, _, rfl, .un, .un, Nat.le_refl _, fun _ z => (nomatch z)⟩ (by
    rintro i x ρ hx ⟨out, e2, e3, rfl, f2, f3, h1, h2⟩
    have hk := (rngL_get hx).2
    rw [rng0_get hx]
    obtain ⟨o2, e2', e3', e, f2', f3', q1, q2⟩ := fg_turn2 (n := n + 1) (by omega) (m := m) hl (out := out) (k := i) (e2 := e2) (e3 := e3) (by omega) f2 f3 h1 h2
    exact ⟨_, .inl e, o2, e2', e3', rfl, f2', f3', q1, q2⟩)
  rw [rngL_len] at h3
  refine ⟨out, ?_, by omega, h4⟩
  refine Eq.trans (phi_df fs__law_flagged rfl) ?_
  have r1 : rngOk 0 ts.length = true := rngOk_s (by omega) (by omega) (by omega) (by omega)
  simp [r1, e]
end
end G
set_option maxHeartbeats 4000000
/-! E19: things near times. -/
namespace G
open L2
section
variable {n : Nat}
abbrev nrS (L ts : List Int) (at' : Nat) (some' : List D) (e4 : En) : List En := [.da .l (.lst (L.map D.int)), .da .s (tmD ts), .da .s (.int at'), .da .o (.lst some'), e4]
theorem nr_turn {m : Int} {L ts : List Int} (hl : ts.length ≤ 100) {at' : Nat} {S : List D} {w : D} {e4 : En} (f4 : Fr e4) (hw : okI w = true) (hn : nnI w = false) (hS : S.length ≤ 5000) (hB : ∀ d ∈ S, BadT m d) :
    ∃ X, f__law_near_1 (GG n) w (nrS L ts at' S e4) = .ok .nx (nrS L ts at' (S ++ [X]) (.da .s w)) ∧ ∀ d ∈ S ++ [X], BadT m d := by
  refine ⟨.tup ((ts.map D.int).take at' ++ w :: (ts.map D.int).drop (at' + 1)), ?_, ?_⟩
  · have l1 : ((ts.map D.int).take at').length ≤ (ts.map D.int).length := by rw [List.length_take]; omega
    have l2 : ((ts.map D.int).drop (at' + 1)).length ≤ (ts.map D.int).length := by rw [List.length_drop]; omega
    have l0 : (ts.map D.int).length ≤ 100 := by rw [List.length_map]; exact hl
    have s1 : slD (tmD ts) none (some (at' : Int)) = _ := sl_to (xs := ts.map D.int) (k := at')
    have s2 : slD (tmD ts) (some ((at' : Int) + 1)) none = _ := sl_fromS (xs := ts.map D.int) (k := at')
    generalize (ts.map D.int).take at' = xa at *
    generalize (ts.map D.int).drop (at' + 1) = xb at *
    have l3 : xa.length + 1 ≤ 10000 := by omega
    have l4 : xa.length + 1 + xb.length ≤ 10000 := by omega
    have l5 : S.length + 1 ≤ 10000 := by omega
    simp [fturn, stE_fr, f4, s1, s2, l3, l4, l5]
  · intro d hd
    rcases List.mem_append.mp hd with hd | hd
    · exact hB d hd
    · rw [List.mem_singleton] at hd
      rw [hd]
      exact bad_mid (ok_take ok_ints) (ok_drop ok_ints) hw hn
def wrsL : List D := [.int (-1), .non, .str "1", .tup [.int 0], .int (-100000000000000000)]
theorem nr_loop {m : Int} {L ts : List Int} (hl : ts.length ≤ 100) {at' : Nat} {S : List D} (hS : S.length ≤ 10) (hB : ∀ d ∈ S, BadT m d) :
    ∃ S' e4, flp (f__law_near_1 (GG n)) wrsL (nrS L ts at' S .un) = .ok .nx (nrS L ts at' S' e4) ∧ S'.length = S.length + 5 ∧ ∀ d ∈ S', BadT m d := by
  obtain ⟨ρ', e, S', e4, rfl, f4, h1, h2⟩ := flp_inv (f := f__law_near_1 (GG n)) (xs := wrsL) (ρ := nrS L ts at' S .un)
    (fun i ρ => ∃ S' e4, ρ = nrS L ts at' S' e4 ∧ Fr e4 ∧ (S'.length = S.length + i ∧ i ≤ 5) ∧ ∀ d ∈ S', BadT m d) ⟨_, _, rfl, .un, ⟨rfl, by omega⟩, hB⟩ (by
    rintro i x ρ hx ⟨S', e4, rfl, f4, ⟨h1, hi⟩, h2⟩
    have hi' : i < 5 := (List.getElem?_eq_some_iff.mp hx).1
    have hm := List.mem_of_getElem? hx
    have hw : okI x = true ∧ nnI x = false := by
      simp only [wrsL, List.mem_cons, List.not_mem_nil, or_false] at hm
      rcases hm with rfl | rfl | rfl | rfl | rfl <;> exact ⟨rfl, rfl⟩
    obtain ⟨X, e, hX⟩ := nr_turn (n := n) (m := m) (L := L) hl (at' := at') (S := S') (e4 := e4) f4 hw.1 hw.2 (by omega) h2
    exact ⟨_, .inl e, S' ++ [X], _, rfl, .s, ⟨by rw [List.length_append, List.length_singleton]; omega, by omega⟩, hX⟩)
  exact ⟨S', e4, e, h1.1, h2⟩
theorem near_ok (hn : 3 ≤ n) {m : Int} {L ts : List Int} (ht : TmOk m ts) (m2 : 2 ≤ m) (m6 : m ≤ 16) : ∃ (L' : List Int) (d : D), Φ n k__law_near [.da .l (.lst (L.map D.int)), .da .s (tmD ts)] = .ok false d [.da .l (.lst (L'.map D.int)), .da .s (tmD ts)] ∧ BadT m d := by
  obtain ⟨n, rfl⟩ := Nat.exists_eq_add_of_le' hn
  have hlen := ht.len
  have hl : ts.length ≤ 100 := by omega
  have g0 : 0 < (ts.length : Int) - 1 := by omega
  have t1 := take_ok (n := n + 2) (by omega) (L := L) g0
  have r0 := tkR_0 (L := L) g0
  have r1 := tkR_lt (L := L) g0
  obtain ⟨a, ha⟩ := Int.eq_ofNat_of_zero_le r0
  rw [ha] at t1
  -- the first eight
  obtain ⟨x1, hx1⟩ : ∃ x, x = ts.map D.int ++ [D.int 0] := ⟨_, rfl⟩
  obtain ⟨x2, hx2⟩ : ∃ x, x = (ts.map D.int).take ((ts.map D.int).length - 1) := ⟨_, rfl⟩
  obtain ⟨x3, hx3⟩ : ∃ x, x = (ts.map D.int).drop 1 := ⟨_, rfl⟩
  have l0 : (ts.map D.int).length = ts.length := List.length_map _
  have l3 : x3.length ≤ 100 := by rw [hx3, List.length_drop]; omega
  have ok3 : ∀ x ∈ x3, okI x = true := by rw [hx3]; exact ok_drop ok_ints
  let S0 : List D := [.tup x1, .tup x2, .lst (ts.map D.int), .non, .tup [], .str "0", .tup (.int 1 :: x3), .tup (.non :: x3)]
  have hB0 : ∀ d ∈ S0, BadT m d := by
    intro d hd
    simp only [S0, List.mem_cons, List.not_mem_nil, or_false] at hd
    rcases hd with rfl | rfl | rfl | rfl | rfl | rfl | rfl | rfl
    · refine bad_len ?_ ?_
      · rw [hx1]
        intro x hx
        rcases List.mem_append.mp hx with hx | hx
        · exact ok_ints x hx
        · rw [List.mem_singleton] at hx
          rw [hx]
          rfl
      · rw [hx1, List.length_append, l0, List.length_singleton]
        omega
    · refine bad_len ?_ ?_
      · rw [hx2]
        exact ok_take ok_ints
      · rw [hx2, List.length_take, l0]
        omega
    · exact ⟨rfl, trivial, rfl⟩
    · exact ⟨rfl, trivial, rfl⟩
    · exact bad_len (fun _ z => (nomatch z)) (by simp; omega)
    · exact ⟨rfl, trivial, rfl⟩
    · refine ⟨rfl, (fun x hx => ?_ : ∀ x ∈ D.int 1 :: x3, okI x = true), ?_⟩
      · rcases List.mem_cons.mp hx with rfl | hx
        · rfl
        · exact ok3 x hx
      · show (decide _ && (_ && false)) = false
        simp
    · exact bad_mid (a := []) (fun _ z => (nomatch z)) ok3 rfl rfl
  obtain ⟨S1, e4, eL, h1, hB1⟩ := nr_loop (n := n + 2) (m := m) (L := tkL L) hl (at' := 1 + a) (S := S0) (by simp [S0]) hB0
  obtain ⟨out, eF, h2, hB2⟩ := flagged_ok (n := n + 2) (by omega) (m := m) hl
  have h1' : S1.length = 13 := h1
  have hB3 : ∀ d ∈ S1 ++ out, BadT m d := fun d hd => (List.mem_append.mp hd).elim (hB1 d) (hB2 d)
  have hl3 : S1.length + out.length ≤ 10000 := by omega
  obtain ⟨S, hS⟩ : ∃ S, S = S1 ++ out := ⟨_, rfl⟩
  have hSl : S.length = S1.length + out.length := by rw [hS, List.length_append]
  rw [← hS] at hB3
  have g1 : 0 < (S.length : Int) := by omega
  have t2 := take_ok (n := n + 2) (by omega) (L := tkL L) g1
  have r2 := tkR_0 (L := tkL L) g1
  have r3 := tkR_lt (L := tkL L) g1
  obtain ⟨b, hb⟩ := Int.eq_ofNat_of_zero_le r2
  rw [hb] at t2 r3
  have hbS : b < S.length := by omega
  have hi : idxD (.lst S) (.int (b : Int)) = some S[b] := idx_natl (List.getElem?_eq_getElem hbS)
  refine ⟨tkL (tkL L), S[b], ?_, hB3 _ (List.getElem_mem _)⟩
  generalize S[b] = d at *
  refine Eq.trans (phi_df fs__law_near rfl) ?_
  have s1 : slD (tmD ts) none (some (-1)) = some (false, .tup x2) := by
    rw [hx2]
    exact sl_last (by rw [l0]; omega)
  have s2 : slD (tmD ts) (some 1) none = some (false, .tup x3) := by
    rw [hx3]
    exact sl_from1
  have p1 : prim2 .add (tmD ts) (.tup [.int 0]) = some (false, .tup x1) := by
    rw [hx1, p_addt, szOk_lit (by rw [l0, List.length_singleton]; omega)]
    rfl
  have p2 : prim2 .pow (.int 10) (.int 17) = some (false, .int 100000000000000000) := rfl
  have bl : biD .list [tmD ts] = some (true, .lst (ts.map D.int)) := b_lstt
  have bn : biD .len [tmD ts] = some (false, .int ts.length) := by rw [b_lent, l0]
  have l4 : 1 + x3.length ≤ 10000 := by omega
  have l5 : x3.length + 1 ≤ 10000 := by omega
  have eL' : flp (f__law_near_1 (GG (n + 2))) [.int (-1), .non, .str "1", .tup [.int 0], .int (-100000000000000000)] [.da .l (.lst ((tkL L).map D.int)), .da .s (tmD ts), .da .s (.int (1 + (a : Int))), .da .o (.lst [.tup x1, .tup x2, .lst (ts.map D.int), .non, .tup [], .str "0", .tup (.int 1 :: x3), .tup (.non :: x3)]), .un] = .ok .nx (nrS (tkL L) ts (1 + a) S1 e4) := eL
  have pa : prim2 .add (.lst S1) (.lst out) = some (true, .lst S) := by
    rw [p_addl, szOk_lit hl3, hS]
    rfl
  have pb : prim2 .add (.tup [.int 1]) (.tup x3) = some (false, .tup (.int 1 :: x3)) := by
    rw [p_addt, szOk_lit (by rw [List.length_singleton]; omega)]
    rfl
  have pc : prim2 .add (.tup [.non]) (.tup x3) = some (false, .tup (.non :: x3)) := by
    rw [p_addt, szOk_lit (by rw [List.length_singleton]; omega)]
    rfl
  simp [t1, bn, s1, s2, p1, p2, pb, pc, bl, l4, l5, eL', eF, pa, t2, hi, -p_addl, -p_addt]
end
end G
set_option maxHeartbeats 4000000
/-! E20: things that are no nets. -/
namespace G
open L2
def isBndB (m : Int) : D → Bool
  | .tup [x, y, w] => isWithin 0 (m - 1) x && (isWithin 0 (m - 1) y && (!(D.eqb x y) && isWithin (-100000) 100000 w))
  | _ => false
def leB : D → D → Bool
  | .int l, .int h => decide (l ≤ h)
  | _, _ => false
@[simp] theorem leB_int {l h : Int} : leB (.int l) (.int h) = decide (l ≤ h) := rfl
def isLstB (m : Int) : D → Bool
  | .tup [a, l, h, c] => isWithin 0 (m - 1) a && (isWithin 1 (m - 1) c && (isWithin 1 1000 l && (isWithin 1 1000 h && (leB l h && !(D.eqb a c)))))
  | _ => false
theorem within_int {lo hi : Int} {d : D} (h : isWithin lo hi d = true) : ∃ i, d = .int i := by
  cases d <;> first | exact ⟨_, rfl⟩ | cases h
section
variable {n : Nat}
theorem is_bound_gen (hn : 3 ≤ n) {m : Int} {d : D} (hd : okI d = true) (hi : itOk d) : Φ n k_is_bound [.da .s (.int m), .da .s d] = .ok false (.bl (isBndB m d)) [.da .s (.int m), .da .s d] := by
  obtain ⟨n, rfl⟩ := Nat.exists_eq_add_of_le' hn
  refine Eq.trans (phi_df fs_is_bound rfl) ?_
  have e0 := is_sized_ok (n := n + 2) (by omega) (d := d) (lo := 3) (hi := 3) hd
  by_cases c : isSized 3 3 d = true
  · cases d with
    | tup xs =>
      have hl : xs.length = 3 := by
        rw [isSized_tup] at c
        simp only [Bool.and_eq_true, decide_eq_true_eq] at c
        omega
      obtain ⟨x, y, w, rfl⟩ : ∃ x y w, xs = [x, y, w] := by
        match xs, hl with
        | [x, y, w], _ => exact ⟨x, y, w, rfl⟩
      have ox : okI x = true := hi x (by simp)
      have oy : okI y = true := hi y (by simp)
      have ow' : okI w = true := hi w (by simp)
      have ex := is_within_ok (n := n + 2) (by omega) (lo := 0) (hi := m - 1) ox
      have ey := is_within_ok (n := n + 2) (by omega) (lo := 0) (hi := m - 1) oy
      have ew := is_within_ok (n := n + 2) (by omega) (lo := -100000) (hi := 100000) ow'
      rw [c] at e0
      show _ = FR.ok false (.bl (isWithin 0 (m - 1) x && (isWithin 0 (m - 1) y && (!(D.eqb x y) && isWithin (-100000) 100000 w)))) _
      by_cases cx : isWithin 0 (m - 1) x = true
      · by_cases cy : isWithin 0 (m - 1) y = true
        · rw [cx] at ex ⊢
          rw [cy] at ey ⊢
          obtain ⟨i, rfl⟩ := within_int cx
          obtain ⟨j, rfl⟩ := within_int cy
          generalize isWithin (-100000) 100000 w = W at *
          by_cases cij : i = j
          · subst cij
            simp [e0, ex]
          · simp [e0, ex, ey, cij, gc_MOST_WORTH, ew]
        · simp only [Bool.not_eq_true] at cy
          rw [cx] at ex ⊢
          rw [cy] at ey ⊢
          simp [e0, ex, ey]
      · simp only [Bool.not_eq_true] at cx
        rw [cx] at ex ⊢
        simp [e0, ex]
    | _ => cases c
  · simp only [Bool.not_eq_true] at c
    have hF : isBndB m d = false := by
      cases d with
      | tup xs =>
        match xs with
        | [] => rfl
        | [_] => rfl
        | [_, _] => rfl
        | [_, _, _] => cases c
        | _ :: _ :: _ :: _ :: _ => rfl
      | _ => rfl
    rw [hF]
    rw [c] at e0
    simp [e0]
theorem is_last_gen (hn : 3 ≤ n) {m : Int} {d : D} (hd : okI d = true) (hi : itOk d) : Φ n k_is_last [.da .s (.int m), .da .s d] = .ok false (.bl (isLstB m d)) [.da .s (.int m), .da .s d] := by
  obtain ⟨n, rfl⟩ := Nat.exists_eq_add_of_le' hn
  refine Eq.trans (phi_df fs_is_last rfl) ?_
  have e0 := is_sized_ok (n := n + 2) (by omega) (d := d) (lo := 4) (hi := 4) hd
  by_cases c : isSized 4 4 d = true
  · cases d with
    | tup xs =>
      have hl : xs.length = 4 := by
        rw [isSized_tup] at c
        simp only [Bool.and_eq_true, decide_eq_true_eq] at c
        omega
      obtain ⟨a, l, h, cc, rfl⟩ : ∃ a l h cc, xs = [a, l, h, cc] := by
        match xs, hl with
        | [x, y, w, z], _ => exact ⟨x, y, w, z, rfl⟩
      have ea := is_within_ok (n := n + 2) (by omega) (lo := 0) (hi := m - 1) (hi a (by simp))
      have ec := is_within_ok (n := n + 2) (by omega) (lo := 1) (hi := m - 1) (hi cc (by simp))
      have el := is_within_ok (n := n + 2) (by omega) (lo := 1) (hi := 1000) (hi l (by simp))
      have eh := is_within_ok (n := n + 2) (by omega) (lo := 1) (hi := 1000) (hi h (by simp))
      rw [c] at e0
      show _ = FR.ok false (.bl (isWithin 0 (m - 1) a && (isWithin 1 (m - 1) cc && (isWithin 1 1000 l && (isWithin 1 1000 h && (leB l h && !(D.eqb a cc))))))) _
      by_cases ca : isWithin 0 (m - 1) a = true
      · by_cases ccc : isWithin 1 (m - 1) cc = true
        · by_cases cl : isWithin 1 1000 l = true
          · by_cases ch : isWithin 1 1000 h = true
            · rw [ca] at ea ⊢
              rw [ccc] at ec ⊢
              rw [cl] at el ⊢
              rw [ch] at eh ⊢
              obtain ⟨i, rfl⟩ := within_int ca
              obtain ⟨j, rfl⟩ := within_int ccc
              obtain ⟨lo, rfl⟩ := within_int cl
              obtain ⟨hi', rfl⟩ := within_int ch
              by_cases clh : lo ≤ hi'
              · simp [e0, ea, ec, el, eh, gc_MOST_LENGTH, clh]
              · simp [e0, ea, ec, el, eh, gc_MOST_LENGTH, clh]
            · simp only [Bool.not_eq_true] at ch
              rw [ca] at ea ⊢
              rw [ccc] at ec ⊢
              rw [cl] at el ⊢
              rw [ch] at eh ⊢
              simp [e0, ea, ec, el, eh, gc_MOST_LENGTH]
          · simp only [Bool.not_eq_true] at cl
            rw [ca] at ea ⊢
            rw [ccc] at ec ⊢
            rw [cl] at el ⊢
            simp [e0, ea, ec, el, gc_MOST_LENGTH]
        · simp only [Bool.not_eq_true] at ccc
          rw [ca] at ea ⊢
          rw [ccc] at ec ⊢
          simp [e0, ea, ec]
      · simp only [Bool.not_eq_true] at ca
        rw [ca] at ea ⊢
        simp [e0, ea]
    | _ => cases c
  · simp only [Bool.not_eq_true] at c
    have hF : isLstB m d = false := by
      cases d with
      | tup xs =>
        match xs with
        | [] => rfl
        | [_] => rfl
        | [_, _] => rfl
        | [_, _, _] => rfl
        | [_, _, _, _] => cases c
        | _ :: _ :: _ :: _ :: _ :: _ => rfl
      | _ => rfl
    rw [hF]
    rw [c] at e0
    simp [e0]
end
end G
set_option maxHeartbeats 4000000
/-! E21: what is no net is refused. -/
namespace G
open L2
structure Its (xs : List D) : Prop where
  ok : ∀ x ∈ xs, okI x = true
  it : ∀ x ∈ xs, itOk x
inductive BadB (m : Int) : D → Prop
  | size {d : D} (h : okI d = true) (hs : isSized 0 60 d = false) : BadB m d
  | one {xs : List D} (h : Its xs) (x : D) (hx : x ∈ xs) (hb : isBndB m x = false) : BadB m (.tup xs)
  | chain {l : List Bd} (h : ∀ b ∈ l, BdOk m b) (hl : l.length ≤ 60) (hc : chainB pairLt l = false) : BadB m (.tup (l.map bD))
inductive BadL (m : Int) : D → Prop
  | size {d : D} (h : okI d = true) (hs : isSized 0 5 d = false) : BadL m d
  | one {xs : List D} (h : Its xs) (x : D) (hx : x ∈ xs) (hb : isLstB m x = false) : BadL m (.tup xs)
  | chain {l : List La} (h : ∀ b ∈ l, LaOk m b) (hl : l.length ≤ 5) (hc : chainB lasLt l = false) : BadL m (.tup (l.map lD))
  | root {l : List La} (h : ∀ b ∈ l, LaOk m b) (hl : l.length ≤ 5) (hc : chainB lasLt l = true)
      (hr : ∀ n, Φ (n + 1) k_are_rooted [.da .s (.tup (l.map lD))] = .ok false (.bl false) [.da .s (.tup (l.map lD))]) : BadL m (.tup (l.map lD))
inductive NoN : D → Prop
  | a {d : D} (h : okI d = true) (hs : isSized 3 3 d = false) : NoN d
  | b {x y z : D} (h : okI x = true) (hs : isWithin 1 16 x = false) : NoN (.tup [x, y, z])
  | c {m : Int} {y z : D} (h1 : 1 ≤ m) (h2 : m ≤ 16) (h : BadB m y) : NoN (.tup [.int m, y, z])
  | d {m : Int} {l : List Bd} {z : D} (h1 : 1 ≤ m) (h2 : m ≤ 16) (h : ∀ b ∈ l, BdOk m b) (hl : l.length ≤ 60) (hc : chainB pairLt l = true) (hz : BadL m z) : NoN (.tup [.int m, .tup (l.map bD), z])
theorem NoN.ok {d : D} (h : NoN d) : okI d = true := by
  cases h with
  | a h _ => exact h
  | _ => rfl
section
variable {n : Nat}
theorem are_bounds_bad (hn : 4 ≤ n) {m : Int} {d : D} (h : BadB m d) : Φ n k_are_bounds [.da .s (.int m), .da .s d] = .ok false (.bl false) [.da .s (.int m), .da .s d] := by
  cases h with
  | size h hs =>
    obtain ⟨n, rfl⟩ := Nat.exists_eq_add_of_le' hn
    refine Eq.trans (phi_df fs_are_bounds rfl) ?_
    have e := is_sized_ok (n := n + 3) (by omega) (d := d) (lo := 0) (hi := 60) h
    rw [hs] at e
    simp [gc_MOST_BOUNDS, e]
  | @one xs h x hx hb =>
    obtain ⟨n, rfl⟩ := Nat.exists_eq_add_of_le' hn
    refine Eq.trans (phi_df fs_are_bounds rfl) ?_
    have e := is_sized_ok (n := n + 3) (by omega) (d := .tup xs) (lo := 0) (hi := 60) rfl
    have e1 := clpF (l := xs) (F := fun x => x) (h := fun x => .bl (isBndB m x)) (ρ := [.da .s (.int m), .da .s (.tup xs), .un, .un]) (f := c_are_bounds_2 (GG (n + 3))) (fun x hx => by
      have := is_bound_gen (n := n + 3) (by omega) (m := m) (h.ok x hx) (h.it x hx)
      simp [cturn, wp, this])
    rw [List.map_id'] at e1
    have e2 := b_allF (l := xs) (p := isBndB m)
    have ha : xs.all (isBndB m) = false := by
      rw [List.all_eq_false]
      exact ⟨x, hx, by rw [hb]; simp⟩
    rw [ha] at e2
    by_cases c : isSized 0 60 (.tup xs) = true
    · rw [c] at e
      have hl : xs.length ≤ 10000 := by
        rw [isSized_tup] at c
        simp only [Bool.and_eq_true, decide_eq_true_eq] at c
        omega
      simp [gc_MOST_BOUNDS, e, wp, bk, e1, hl, e2]
    · simp only [Bool.not_eq_true] at c
      rw [c] at e
      simp [gc_MOST_BOUNDS, e]
  | chain h hl hc =>
    have e := are_bounds_ok hn h hl
    rw [hc] at e
    exact e
theorem are_lasts_bad (hn : 4 ≤ n) {m : Int} {d : D} (h : BadL m d) : Φ n k_are_lasts [.da .s (.int m), .da .s d] = .ok false (.bl false) [.da .s (.int m), .da .s d] := by
  have key : ∀ {l : List La}, (∀ b ∈ l, LaOk m b) → l.length ≤ 5 → (chainB lasLt l = true → ∀ n, Φ (n + 1) k_are_rooted [.da .s (.tup (l.map lD))] = .ok false (.bl false) [.da .s (.tup (l.map lD))]) →
      Φ n k_are_lasts [.da .s (.int m), .da .s (.tup (l.map lD))] = .ok false (.bl false) [.da .s (.int m), .da .s (.tup (l.map lD))] := by
    intro l h hl hr
    obtain ⟨n, rfl⟩ := Nat.exists_eq_add_of_le' hn
    refine Eq.trans (phi_df fs_are_lasts rfl) ?_
    have e1 := clpF (l := l) (F := lD) (h := fun _ => .bl true) (ρ := [.da .s (.int m), .da .s (.tup (l.map lD)), .un]) (f := c_are_lasts_1 (GG (n + 3)))
      (fun b hb => by simp [cturn, wp, is_last_ok, h b hb])
    have h3 : (l.length : Int) ≤ 5 := by omega
    have h4 : l.length ≤ 10000 := by omega
    have h6 : ∀ l : List La, (List.map (fun _ => D.bl true) l) = (l.map fun _ => true).map D.bl := fun l => by simp
    have e2 := is_rising_ok (n := n + 3) (by omega) (F := lD) (r := lasLt) (fun a b => by simp [lD, D.lt, D.ints, lasLt]) h4
    simp [wp, bk, e1, is_sized_ok, gc_MOST_LASTS, h3, h4]
    rw [h6, b_all]
    by_cases c : chainB lasLt l = true
    · have e3 := hr c (n + 2)
      rw [c] at e2
      simp [e2, e3]
    · simp only [Bool.not_eq_true] at c
      rw [c] at e2
      simp [e2]
  cases h with
  | size h hs =>
    obtain ⟨n, rfl⟩ := Nat.exists_eq_add_of_le' hn
    refine Eq.trans (phi_df fs_are_lasts rfl) ?_
    have e := is_sized_ok (n := n + 3) (by omega) (d := d) (lo := 0) (hi := 5) h
    rw [hs] at e
    simp [gc_MOST_LASTS, e]
  | @one xs h x hx hb =>
    obtain ⟨n, rfl⟩ := Nat.exists_eq_add_of_le' hn
    refine Eq.trans (phi_df fs_are_lasts rfl) ?_
    have e := is_sized_ok (n := n + 3) (by omega) (d := .tup xs) (lo := 0) (hi := 5) rfl
    have e1 := clpF (l := xs) (F := fun x => x) (h := fun x => .bl (isLstB m x)) (ρ := [.da .s (.int m), .da .s (.tup xs), .un]) (f := c_are_lasts_1 (GG (n + 3))) (fun x hx => by
      have := is_last_gen (n := n + 3) (by omega) (m := m) (h.ok x hx) (h.it x hx)
      simp [cturn, wp, this])
    rw [List.map_id'] at e1
    have e2 := b_allF (l := xs) (p := isLstB m)
    have ha : xs.all (isLstB m) = false := by
      rw [List.all_eq_false]
      exact ⟨x, hx, by rw [hb]; simp⟩
    rw [ha] at e2
    by_cases c : isSized 0 5 (.tup xs) = true
    · rw [c] at e
      have hl : xs.length ≤ 10000 := by
        rw [isSized_tup] at c
        simp only [Bool.and_eq_true, decide_eq_true_eq] at c
        omega
      simp [gc_MOST_LASTS, e, wp, bk, e1, hl, e2]
    · simp only [Bool.not_eq_true] at c
      rw [c] at e
      simp [gc_MOST_LASTS, e]
  | chain h hl hc => exact key h hl fun c => absurd c (by rw [hc]; decide)
  | root h hl hc hr => exact key h hl fun _ => hr
theorem is_net_bad (hn : 5 ≤ n) {d : D} (h : NoN d) : Φ n k_is_net [.da .s d] = .ok false (.bl false) [.da .s d] := by
  obtain ⟨n, rfl⟩ := Nat.exists_eq_add_of_le' hn
  refine Eq.trans (phi_df fs_is_net rfl) ?_
  cases h with
  | a h hs => 
    have e := is_sized_ok (n := n + 4) (by omega) (d := d) (lo := 3) (hi := 3) h
    rw [hs] at e
    simp [e]
  | b h hs =>
    have e := is_within_ok (n := n + 4) (by omega) (lo := 1) (hi := 16) h
    rw [hs] at e
    simp [is_sized_ok, gc_MOST_EVENTS, e]
  | c h1 h2 h =>
    have e := are_bounds_bad (n := n + 4) (by omega) h
    simp [is_sized_ok, is_within_ok, gc_MOST_EVENTS, h1, h2, e]
  | d h1 h2 h hl hc hz =>
    have e := are_bounds_ok (n := n + 4) (by omega) h hl
    rw [hc] at e
    have e2 := are_lasts_bad (n := n + 4) (by omega) hz
    simp [is_sized_ok, is_within_ok, gc_MOST_EVENTS, h1, h2, e, e2]
theorem check_net_bad (hn : 6 ≤ n) {d : D} (h : NoN d) : Φ n k_check_net [.da .s d] = .ex ⟨c_NoNet, []⟩ [.da .s d] := by
  obtain ⟨n, rfl⟩ := Nat.exists_eq_add_of_le' hn
  refine Eq.trans (phi_df fs_check_net rfl) ?_
  simp [is_net_bad, h]
def ask4 : List Nat := [k_ends_of, k_ours_of, k_all_bounds, k_horizon]
theorem ask4_bad (hn : 7 ≤ n) {k : Nat} (hk : k ∈ ask4) {d : D} (h : NoN d) : Φ n k [.da .s d] = .ex ⟨c_NoNet, []⟩ [.da .s d] := by
  obtain ⟨n, rfl⟩ := Nat.exists_eq_add_of_le' hn
  simp only [ask4, List.mem_cons, List.not_mem_nil, or_false] at hk
  rcases hk with rfl | rfl | rfl | rfl
  · refine Eq.trans (phi_df fs_ends_of rfl) ?_
    simp [check_net_bad, h]
  · refine Eq.trans (phi_df fs_ours_of rfl) ?_
    simp [check_net_bad, h]
  · refine Eq.trans (phi_df fs_all_bounds rfl) ?_
    simp [check_net_bad, h]
  · refine Eq.trans (phi_df fs_horizon rfl) ?_
    simp [check_net_bad, h]
theorem last_of_bad (hn : 7 ≤ n) {d e : D} (h : NoN d) : Φ n k_last_of [.da .s d, .da .s e] = .ex ⟨c_NoNet, []⟩ [.da .s d, .da .s e] := by
  obtain ⟨n, rfl⟩ := Nat.exists_eq_add_of_le' hn
  refine Eq.trans (phi_df fs_last_of rfl) ?_
  simp [check_net_bad, h]
theorem ref_turn (hn : 7 ≤ n) {k : Nat} (hk : k ∈ ask4) {d : D} {e1 : En} (h : NoN d) (f1 : Fr e1) : f__law_are_refused_1 (GG n) (.fn k) [.da .s d, e1, .un] = .ok .nx [.da .s d, .da .s (.fn k), .un] := by
  have e := ask4_bad hn hk h
  have s1 : sub0 c_NoNet c_NoNet = true := rfl
  have s2 : sub0 c_NoNet c_PlanError = true := rfl
  have s3 : sub0 c_NoNet c_ValueError = true := rfl
  simp [fturn, stE_fr, f1, fnS_s, e, s1, s2, s3]
theorem refused_ok (hn : 8 ≤ n) {d : D} (h : NoN d) : Φ n k__law_are_refused [.da .s d] = .ok false (.bl true) [.da .s d] := by
  obtain ⟨n, rfl⟩ := Nat.exists_eq_add_of_le' hn
  refine Eq.trans (phi_df fs__law_are_refused rfl) ?_
  have s1 : sub0 c_NoNet c_NoNet = true := rfl
  have s2 : sub0 c_NoNet c_NoEnd = false := rfl
  have el := last_of_bad (n := n + 7) (by omega) (e := .int 1) h
  have e : flp (f__law_are_refused_1 (GG (n + 7))) [.fn k_ends_of, .fn k_ours_of, .fn k_all_bounds, .fn k_horizon] [.da .s d, .un, .un] = .ok .nx [.da .s d, .da .s (.fn k_horizon), .un] := by
    show (f__law_are_refused_1 (GG _) _ _).bd _ = _
    rw [ref_turn (by omega) (by simp [ask4]) h .un]
    show (f__law_are_refused_1 (GG _) _ _).bd _ = _
    rw [ref_turn (by omega) (by simp [ask4]) h .s]
    show (f__law_are_refused_1 (GG _) _ _).bd _ = _
    rw [ref_turn (by omega) (by simp [ask4]) h .s]
    show (f__law_are_refused_1 (GG _) _ _).bd _ = _
    rw [ref_turn (by omega) (by simp [ask4]) h .s]
    rfl
  simp [e, el, s1, s2]
/-! two that have no root -/
theorem ring_no : ∀ n, Φ (n + 1) k_are_rooted [.da .s (.tup ([⟨1, 1, 1, 2⟩, ⟨2, 1, 1, 1⟩].map lD))] = .ok false (.bl false) [.da .s (.tup ([⟨1, 1, 1, 2⟩, ⟨2, 1, 1, 1⟩].map lD))] := by
  intro n
  refine Eq.trans (phi_df fs_are_rooted rfl) ?_
  kernel_rfl
theorem twice_no : ∀ n, Φ (n + 1) k_are_rooted [.da .s (.tup ([⟨0, 1, 1, 1⟩, ⟨0, 1, 2, 1⟩].map lD))] = .ok false (.bl false) [.da .s (.tup ([⟨0, 1, 1, 1⟩, ⟨0, 1, 2, 1⟩].map lD))] := by
  intro n
  refine Eq.trans (phi_df fs_are_rooted rfl) ?_
  kernel_rfl
end
end G
set_option maxHeartbeats 4000000
/-! E22: things with a flag in them; pairs. -/
namespace G
open L2
section
variable {n : Nat}
abbrev fhS (xs : List D) (out : List D) (e2 e3 : En) : List En := [.da .s (.tup xs), .da .o (.lst out), e2, e3]
theorem fh_turn1 {xs : List D} (hl : xs.length ≤ 100) {out : List D} {k : Nat} {y : D} {e3 : En} (f3 : Fr e3) (ho : out.length ≤ 5000) :
    f__law_flagged_1 (GG n) y (fhS xs out (.da .s (.int k)) e3) = .ok .nx (fhS xs (out ++ [.tup (xs.take k ++ y :: xs.drop (k + 1))]) (.da .s (.int k)) (.da .s y)) := by
  have l1 : (xs.take k).length ≤ xs.length := by rw [List.length_take]; omega
  have l2 : (xs.drop (k + 1)).length ≤ xs.length := by rw [List.length_drop]; omega
  have s1 : slD (.tup xs) none (some (k : Int)) = _ := sl_to (xs := xs) (k := k)
  have s2 : slD (.tup xs) (some ((k : Int) + 1)) none = _ := sl_fromS (xs := xs) (k := k)
  generalize xs.take k = xa at *
  generalize xs.drop (k + 1) = xb at *
  have l3 : xa.length + 1 ≤ 10000 := by omega
  have l4 : xa.length + 1 + xb.length ≤ 10000 := by omega
  have l5 : out.length + 1 ≤ 10000 := by omega
  simp [fturn, stE_fr, f3, s1, s2, l3, l4, l5]
/-- a thing that a flag made of a tuple -/
def MadeF (Q : D → D → Prop) (xs : List D) (d : D) : Prop := ∃ (k : Nat) (x y : D), xs[k]? = some x ∧ Q x y ∧ d = .tup (xs.take k ++ y :: xs.drop (k + 1))
theorem fh_loop1 {Q : D → D → Prop} {xs : List D} (hl : xs.length ≤ 100) {k : Nat} {x : D} (hx : xs[k]? = some x) :
    ∀ (o out : List D) (e3 : En), (∀ y ∈ o, Q x y) → Fr e3 → out.length + o.length ≤ 5000 → (∀ d ∈ out, MadeF Q xs d) →
    ∃ out' e3', flp (f__law_flagged_1 (GG n)) o (fhS xs out (.da .s (.int k)) e3) = .ok .nx (fhS xs out' (.da .s (.int k)) e3') ∧ Fr e3' ∧ out'.length = out.length + o.length ∧ ∀ d ∈ out', MadeF Q xs d
  | [], out, e3, _, f3, _, hB => ⟨out, e3, rfl, f3, rfl, hB⟩
  | y :: o, out, e3, hq, f3, ho, hB => by
    rw [List.length_cons] at ho
    obtain ⟨out', e3', e, f, h1, h2⟩ := fh_loop1 hl hx o (out ++ [.tup (xs.take k ++ y :: xs.drop (k + 1))]) (.da .s y) (fun z hz => hq z (List.mem_cons_of_mem _ hz)) .s (by rw [List.length_append, List.length_singleton]; omega) (fun d hd => by
      rcases List.mem_append.mp hd with hd | hd
      · exact hB d hd
      · rw [List.mem_singleton] at hd
        exact ⟨k, x, y, hx, hq y List.mem_cons_self, hd⟩)
    refine ⟨out', e3', ?_, f, ?_, h2⟩
    · show (f__law_flagged_1 (GG n) _ _).bd _ = _
      rw [fh_turn1 hl f3 (by omega)]
      exact e
    · rw [h1, List.length_append, List.length_singleton, List.length_cons]; omega
theorem flagT {Q : D → D → Prop} {xs : List D} (hl : xs.length ≤ 100) {c : Nat} (hc : c * xs.length ≤ 4000)
    (H : ∀ x ∈ xs, ∃ o, Φ n k__law_flagged [.da .s x] = .ok true (.lst o) [.da .s x] ∧ o.length ≤ c ∧ ∀ y ∈ o, Q x y) :
    ∃ out, Φ (n + 1) k__law_flagged [.da .s (.tup xs)] = .ok true (.lst out) [.da .s (.tup xs)] ∧ out.length ≤ c * xs.length ∧ ∀ d ∈ out, MadeF Q xs d := by
  obtain ⟨ρ', e, out, e2, e3, rfl, h1, h2, h3, h4⟩ := flp_inv (f := f__law_flagged_2 (GG n)) (xs := rngL 0 xs.length) (ρ := fhS xs [] .un .un)
    (fun i ρ => ∃ out e2 e3, ρ = fhS xs out e2 e3 ∧ Fr e2 ∧ Fr e3 ∧ (out.length ≤ c * i ∧ i ≤ xs.length) ∧ ∀ d ∈ out, MadeF Q xs d) ⟨_, _, _, rfl, .un, .un, ⟨Nat.zero_le _, Nat.zero_le _⟩, fun _ z => (nomatch z)⟩ (by
    rintro i x ρ hx ⟨out, e2, e3, rfl, f2, f3, ⟨h1, hi⟩, h2⟩
    have hk := (rngL_get hx).2
    rw [rng0_get hx]
    have hk' : i < xs.length := by omega
    have hg : xs[i]? = some xs[i] := List.getElem?_eq_getElem hk'
    have i1 : idxD (.tup xs) (.int (i : Int)) = some xs[i] := idx_nat hg
    obtain ⟨o, eo, lo, ho⟩ := H xs[i] (List.getElem_mem _)
    generalize xs[i] = x at *
    have hci : c * (i + 1) ≤ c * xs.length := Nat.mul_le_mul_left _ (by omega)
    rw [Nat.mul_add, Nat.mul_one] at hci
    obtain ⟨out', e3', e, f, q1, q2⟩ := fh_loop1 (n := n) hl hg o out e3 ho f3 (by omega) h2
    refine ⟨fhS xs out' (.da .s (.int i)) e3', .inl ?_, out', _, _, rfl, .s, f, ⟨?_, by omega⟩, q2⟩
    · simp [fturn, stE_fr, f2, i1, eo, e]
    · rw [Nat.mul_add, Nat.mul_one]; omega)
  rw [rngL_len] at h3
  have h5 : ((xs.length : Int) - 0).toNat = xs.length := by simp
  rw [h5] at h3
  refine ⟨out, ?_, h3.1, h4⟩
  refine Eq.trans (phi_df fs__law_flagged rfl) ?_
  have r1 : rngOk 0 xs.length = true := rngOk_s (by omega) (by omega) (by omega) (by omega)
  simp [r1, e]
def isBl : D → Bool
  | .bl _ => true
  | _ => false
def QI (x y : D) : Prop := isBl y = true ∧ ∃ i, x = .int i ∧ 0 ≤ i ∧ i ≤ 1
theorem flagI (hn : 1 ≤ n) {i : Int} : ∃ o, Φ n k__law_flagged [.da .s (.int i)] = .ok true (.lst o) [.da .s (.int i)] ∧ o.length ≤ 1 ∧ ∀ y ∈ o, QI (.int i) y := by
  refine ⟨flg1 i, flagged_int hn, ?_, ?_⟩
  · unfold flg1
    split <;> simp
  · intro y hy
    unfold flg1 at hy
    split at hy
    · rename_i h
      rw [List.mem_singleton] at hy
      rw [hy]
      exact ⟨rfl, i, rfl, h.1, h.2⟩
    · cases hy
theorem flagTI (hn : 1 ≤ n) {l : List Int} (hl : l.length ≤ 100) : ∃ out, Φ (n + 1) k__law_flagged [.da .s (.tup (l.map D.int))] = .ok true (.lst out) [.da .s (.tup (l.map D.int))] ∧ out.length ≤ l.length ∧ ∀ d ∈ out, MadeF QI (l.map D.int) d := by
  have := flagT (n := n) (Q := QI) (xs := l.map D.int) (c := 1) (by rw [List.length_map]; exact hl) (by rw [List.length_map]; omega) (fun x hx => by
    obtain ⟨i, -, rfl⟩ := List.mem_map.mp hx
    exact flagI hn)
  rw [Nat.one_mul, List.length_map] at this
  exact this
theorem okI_bl' {y : D} (h : isBl y = true) : okI y = true ∧ ∀ lo hi, isWithin lo hi y = false := by
  cases y <;> first | exact ⟨rfl, fun _ _ => rfl⟩ | cases h
/-- a flagged bound -/
theorem made_b {m : Int} {b : Bd} {d : D} (h : MadeF QI ([b.i, b.j, b.w].map D.int) d) : okI d = true ∧ itOk d ∧ isBndB m d = false := by
  obtain ⟨k, x, y, hx, ⟨q, -⟩, rfl⟩ := h
  have o := okI_bl' q
  have hk : k < 3 := (List.getElem?_eq_some_iff.mp hx).1
  match k, hk with
  | 0, _ => exact ⟨rfl, (fun z hz => by
      rcases List.mem_cons.mp hz with rfl | hz
      · exact o.1
      · simp at hz; rcases hz with rfl | rfl <;> rfl : ∀ z ∈ [y, .int b.j, .int b.w], okI z = true), by
      show (isWithin 0 (m - 1) y && _) = false
      rw [o.2]; rfl⟩
  | 1, _ => exact ⟨rfl, (fun z hz => by
      simp at hz
      rcases hz with rfl | rfl | rfl
      · rfl
      · exact o.1
      · rfl : ∀ z ∈ [.int b.i, y, .int b.w], okI z = true), by
      show (_ && (isWithin 0 (m - 1) y && _)) = false
      rw [o.2]; simp⟩
  | 2, _ => exact ⟨rfl, (fun z hz => by
      simp at hz
      rcases hz with rfl | rfl | rfl
      · rfl
      · rfl
      · exact o.1 : ∀ z ∈ [.int b.i, .int b.j, y], okI z = true), by
      show (_ && (_ && (_ && isWithin (-100000) 100000 y))) = false
      rw [o.2]; simp⟩
theorem made_l {m : Int} {l : La} {d : D} (h : MadeF QI ([l.a, l.lo, l.hi, l.c].map D.int) d) : okI d = true ∧ itOk d ∧ isLstB m d = false := by
  obtain ⟨k, x, y, hx, ⟨q, -⟩, rfl⟩ := h
  have o := okI_bl' q
  have hk : k < 4 := (List.getElem?_eq_some_iff.mp hx).1
  match k, hk with
  | 0, _ => exact ⟨rfl, (fun z hz => by
      simp at hz
      rcases hz with rfl | rfl | rfl | rfl
      · exact o.1
      · rfl
      · rfl
      · rfl : ∀ z ∈ [y, .int l.lo, .int l.hi, .int l.c], okI z = true), by
      show (isWithin 0 (m - 1) y && _) = false
      rw [o.2]; rfl⟩
  | 1, _ => exact ⟨rfl, (fun z hz => by
      simp at hz
      rcases hz with rfl | rfl | rfl | rfl
      · rfl
      · exact o.1
      · rfl
      · rfl : ∀ z ∈ [.int l.a, y, .int l.hi, .int l.c], okI z = true), by
      show (_ && (_ && (isWithin 1 1000 y && _))) = false
      rw [o.2]; simp⟩
  | 2, _ => exact ⟨rfl, (fun z hz => by
      simp at hz
      rcases hz with rfl | rfl | rfl | rfl
      · rfl
      · rfl
      · exact o.1
      · rfl : ∀ z ∈ [.int l.a, .int l.lo, y, .int l.c], okI z = true), by
      show (_ && (_ && (_ && (isWithin 1 1000 y && _)))) = false
      rw [o.2]; simp⟩
  | 3, _ => exact ⟨rfl, (fun z hz => by
      simp at hz
      rcases hz with rfl | rfl | rfl | rfl
      · rfl
      · rfl
      · rfl
      · exact o.1 : ∀ z ∈ [.int l.a, .int l.lo, .int l.hi, y], okI z = true), by
      show (_ && (isWithin 1 (m - 1) y && _)) = false
      rw [o.2]; simp⟩
theorem its_b {l : List Bd} : Its (l.map bD) := ⟨fun x hx => by
  obtain ⟨b, -, rfl⟩ := List.mem_map.mp hx
  rfl, fun x hx => by
  obtain ⟨b, -, rfl⟩ := List.mem_map.mp hx
  exact tm_items (ts := [b.i, b.j, b.w])⟩
theorem its_l {l : List La} : Its (l.map lD) := ⟨fun x hx => by
  obtain ⟨b, -, rfl⟩ := List.mem_map.mp hx
  rfl, fun x hx => by
  obtain ⟨b, -, rfl⟩ := List.mem_map.mp hx
  exact tm_items (ts := [b.a, b.lo, b.hi, b.c])⟩
theorem its_app {a b : List D} {y : D} (ha : Its a) (hb : Its b) (h1 : okI y = true) (h2 : itOk y) : Its (a ++ y :: b) := ⟨fun x hx => by
  rcases List.mem_append.mp hx with hx | hx
  · exact ha.ok x hx
  · rcases List.mem_cons.mp hx with rfl | hx
    · exact h1
    · exact hb.ok x hx, fun x hx => by
  rcases List.mem_append.mp hx with hx | hx
  · exact ha.it x hx
  · rcases List.mem_cons.mp hx with rfl | hx
    · exact h2
    · exact hb.it x hx⟩
theorem its_take {a : List D} {k : Nat} (h : Its a) : Its (a.take k) := ⟨fun x hx => h.ok x (List.mem_of_mem_take hx), fun x hx => h.it x (List.mem_of_mem_take hx)⟩
theorem its_drop {a : List D} {k : Nat} (h : Its a) : Its (a.drop k) := ⟨fun x hx => h.ok x (List.mem_of_mem_drop hx), fun x hx => h.it x (List.mem_of_mem_drop hx)⟩
def QB (x y : D) : Prop := ∃ b : Bd, x = bD b ∧ MadeF QI ([b.i, b.j, b.w].map D.int) y
def QL (x y : D) : Prop := ∃ b : La, x = lD b ∧ MadeF QI ([b.a, b.lo, b.hi, b.c].map D.int) y
theorem made_bs {m : Int} {l : List Bd} {d : D} (h : MadeF QB (l.map bD) d) : BadB m d := by
  obtain ⟨k, x, y, hx, ⟨b, -, q⟩, rfl⟩ := h
  have g := made_b (m := m) q
  exact .one (its_app (its_take its_b) (its_drop its_b) g.1 g.2.1) y (by simp) g.2.2
theorem made_ls {m : Int} {l : List La} {d : D} (h : MadeF QL (l.map lD) d) : BadL m d := by
  obtain ⟨k, x, y, hx, ⟨b, -, q⟩, rfl⟩ := h
  have g := made_l (m := m) q
  exact .one (its_app (its_take its_l) (its_drop its_l) g.1 g.2.1) y (by simp) g.2.2
def QN (N : Net) (x y : D) : Prop := (x = .tup (N.bds.map bD) ∧ MadeF QB (N.bds.map bD) y) ∨ (x = .tup (N.las.map lD) ∧ MadeF QL (N.las.map lD) y)
theorem flagN (hn : 4 ≤ n) {N : Net} (h : NetOk N) (m2 : 2 ≤ N.many) : ∃ out, Φ n k__law_flagged [.da .s N.d] = .ok true (.lst out) [.da .s N.d] ∧ out.length ≤ 1000 ∧ ∀ d ∈ out, NoN d := by
  obtain ⟨n, rfl⟩ := Nat.exists_eq_add_of_le' hn
  have bl := h.bl
  have ll := h.ll
  obtain ⟨ob, eb, lb, hb⟩ := flagT (n := n + 2) (Q := QB) (xs := N.bds.map bD) (c := 3) (by rw [List.length_map]; omega) (by rw [List.length_map]; omega) (fun x hx => by
    obtain ⟨b, -, rfl⟩ := List.mem_map.mp hx
    obtain ⟨o, e, l, q⟩ := flagTI (n := n + 1) (by omega) (l := [b.i, b.j, b.w]) (by simp)
    exact ⟨o, e, l, fun y hy => ⟨b, rfl, q y hy⟩⟩)
  obtain ⟨ol, el, l2, hl⟩ := flagT (n := n + 2) (Q := QL) (xs := N.las.map lD) (c := 4) (by rw [List.length_map]; omega) (by rw [List.length_map]; omega) (fun x hx => by
    obtain ⟨b, -, rfl⟩ := List.mem_map.mp hx
    obtain ⟨o, e, l, q⟩ := flagTI (n := n + 1) (by omega) (l := [b.a, b.lo, b.hi, b.c]) (by simp)
    exact ⟨o, e, l, fun y hy => ⟨b, rfl, q y hy⟩⟩)
  rw [List.length_map] at lb l2
  obtain ⟨out, e, lo, ho⟩ := flagT (n := n + 3) (Q := QN N) (xs := [.int N.many, .tup (N.bds.map bD), .tup (N.las.map lD)]) (c := 200) (by simp) (by simp) (fun x hx => by
    simp only [List.mem_cons, List.not_mem_nil, or_false] at hx
    rcases hx with rfl | rfl | rfl
    · refine ⟨flg1 N.many, flagged_int (by omega), ?_, ?_⟩
      · unfold flg1; rw [if_neg (by omega)]; simp
      · unfold flg1; rw [if_neg (by omega)]; simp
    · exact ⟨ob, eb, by omega, fun y hy => .inl ⟨rfl, hb y hy⟩⟩
    · exact ⟨ol, el, by omega, fun y hy => .inr ⟨rfl, hl y hy⟩⟩)
  refine ⟨out, e, by simp at lo; omega, fun d hd => ?_⟩
  obtain ⟨k, x, y, hx, q, rfl⟩ := ho d hd
  have hk : k < 3 := (List.getElem?_eq_some_iff.mp hx).1
  match k, hk with
  | 0, _ =>
    cases hx
    rcases q with ⟨q, -⟩ | ⟨q, -⟩ <;> cases q
  | 1, _ =>
    rcases q with ⟨-, q⟩ | ⟨q2, q⟩
    · exact .c h.m1 h.m2 (made_bs q)
    · simp at hx
      rw [q2] at hx
      have hx' := D.tup.inj hx
      cases hB : N.bds with
      | nil =>
        rw [hB] at hx'
        have : N.las.map lD = [] := hx'.symm
        rw [this] at q
        obtain ⟨_, _, _, z, _⟩ := q
        simp at z
      | cons b bs =>
        rw [hB] at hx'
        cases hL : N.las with
        | nil => rw [hL] at hx'; cases hx'
        | cons l ls =>
          rw [hL] at hx'
          simp only [List.map_cons, List.cons.injEq] at hx'
          have := hx'.1
          unfold bD lD at this
          simp at this
  | 2, _ =>
    rcases q with ⟨q2, q⟩ | ⟨-, q⟩
    · simp at hx
      rw [q2] at hx
      have hx' := D.tup.inj hx
      cases hB : N.bds with
      | nil =>
        rw [hB] at q
        obtain ⟨_, _, _, z, _⟩ := q
        simp at z
      | cons b bs =>
        rw [hB] at hx'
        cases hL : N.las with
        | nil => rw [hL] at hx'; cases hx'
        | cons l ls =>
          rw [hL] at hx'
          simp only [List.map_cons, List.cons.injEq] at hx'
          have := hx'.1
          unfold bD lD at this
          simp at this
    · exact .d h.m1 h.m2 h.b h.bl h.bc (made_ls q)
end
end G
set_option maxHeartbeats 4000000
/-! E23: one fault each. -/
namespace G
open L2
def prs (w : Int) : List Bd := (List.range 9).flatMap fun (i : Nat) => ((List.range 9).filter fun (j : Nat) => i != j).map fun (j : Nat) => (⟨(i : Int), (j : Int), w⟩ : Bd)
theorem pairs_0 : ∀ n, Φ (n + 1) k__law_pairs [.da .s (.int 9), .da .s (.int 0)] = .ok true (.lst ((prs 0).map bD)) [.da .s (.int 9), .da .s (.int 0)] := by
  intro n
  refine Eq.trans (phi_df fs__law_pairs rfl) ?_
  kernel_rfl
theorem pairs_w : ∀ n, Φ (n + 1) k__law_pairs [.da .s (.int 9), .da .s (.int 100000)] = .ok true (.lst ((prs 100000).map bD)) [.da .s (.int 9), .da .s (.int 100000)] := by
  intro n
  refine Eq.trans (phi_df fs__law_pairs rfl) ?_
  kernel_rfl
theorem ess_hd {g : Gx} {b : Sts} {s : St} {r : Sts} (hb : b = .cons s r) {ρ ρ' : List En} (h : es g s ρ = .ok .nx ρ') : ess g b ρ = ess g r ρ' := by
  rw [hb, ess_cons, h]
  rfl
def hdQ : Sts → St
  | .cons s _ => s
  | .nil => .pas
def tlQ : Sts → Sts
  | .cons _ r => r
  | .nil => .nil
@[simp] theorem hdQ_c {s : St} {r : Sts} : hdQ (.cons s r) = s := rfl
@[simp] theorem tlQ_c {s : St} {r : Sts} : tlQ (.cons s r) = r := rfl
def tlN : Nat → Sts → Sts
  | 0, b => b
  | k + 1, b => tlN k (tlQ b)
def stN (k : Nat) (b : Sts) : St := hdQ (tlN k b)
section
variable {n : Nat}
abbrev bdS (L : List Int) (N : Net) (e5 e7 e8 : En) : List En := [.da .l (.lst (L.map D.int)), .da .s N.d, .da .s (.int N.many), .da .s (.tup (N.bds.map bD)), .da .s (.tup (N.las.map lD)), e5, .un, e7, e8]
abbrev bB : Sts := df__law_bad.body
def sixL : List La := [⟨0, 1, 1, 1⟩, ⟨0, 1, 1, 2⟩, ⟨0, 1, 1, 3⟩, ⟨0, 1, 1, 4⟩, ⟨0, 1, 1, 5⟩, ⟨0, 1, 1, 6⟩]
abbrev sxE : En := .da .s (.tup (sixL.map lD))
abbrev prE : En := .da .o (.lst ((prs 0).map bD))
def t3 (i j w : Int) : D := .tup [.int i, .int j, .int w]
def t4 (a l h c : Int) : D := .tup [.int a, .int l, .int h, .int c]
abbrev n3 (y z : D) : D := .tup [.int 3, y, z]
def l6 (m : Int) : List D := [.tup [.int m, .tup [t3 0 1 100001], .tup []], .tup [.int m, .tup [t3 0 1 (-100001)], .tup []], .tup [.int m, .tup [.tup [.int 0, .int 1, .non]], .tup []]]
def l7 : List D := [n3 (.tup [t3 0 1 1, t3 0 1 2]) (.tup []), n3 (.tup [t3 1 0 1, t3 0 1 2]) (.tup []), n3 (.tup [.tup [.int 0, .int 1]]) (.tup [])]
def l8 : List D := [n3 (.tup []) (.tup [t4 0 0 1 1]), n3 (.tup []) (.tup [t4 0 3 2 1]), n3 (.tup []) (.tup [t4 0 1 1001 1])]
def l9 : List D := [n3 (.tup []) (.tup [t4 1 1 2 0]), n3 (.tup []) (.tup [t4 1 1 1 1]), n3 (.tup []) (.tup [t4 1 1 1 2, t4 2 1 1 1])]
def l10 : List D := [n3 (.tup []) (.tup [t4 0 1 1 1, t4 0 1 2 1]), n3 (.tup []) (.tup [t4 0 1 1 2, t4 0 1 1 1]), n3 (.tup []) (.lst [])]
def l11 (X P : List D) : List D := [.tup [.int 8, .tup [], .tup X], .tup [.int 9, .tup P, .tup []], n3 (.tup []) (.tup [t4 0 1 1 3]), n3 (.tup []) (.tup [.tup [.int 0, .int 1, .int 1]])]
theorem szA {S : List D} {k : Nat} (h : S.length ≤ 5000) (hk : k ≤ 5000) : szOk (S.length + k) = true := szOk_lit (by omega)
theorem st_6 {L : List Int} {N : Net} {e5 e7 : En} {S : List D} (h : S.length ≤ 5000) : es (GG n) (stN 6 bB) (bdS L N e5 e7 (.da .o (.lst S))) = .ok .nx (bdS L N e5 e7 (.da .o (.lst (S ++ l6 N.many)))) := by
  have h3 : S.length + 3 ≤ 10000 := by omega
  simp [stN, tlN, bB, df__law_bad, h3, l6, t3]
theorem st_7 {L : List Int} {N : Net} {e5 e7 : En} {S : List D} (h : S.length ≤ 5000) : es (GG n) (stN 7 bB) (bdS L N e5 e7 (.da .o (.lst S))) = .ok .nx (bdS L N e5 e7 (.da .o (.lst (S ++ l7)))) := by
  have h3 : S.length + 3 ≤ 10000 := by omega
  simp [stN, tlN, bB, df__law_bad, h3, l7, t3]
theorem st_8 {L : List Int} {N : Net} {e5 e7 : En} {S : List D} (h : S.length ≤ 5000) : es (GG n) (stN 8 bB) (bdS L N e5 e7 (.da .o (.lst S))) = .ok .nx (bdS L N e5 e7 (.da .o (.lst (S ++ l8)))) := by
  have h3 : S.length + 3 ≤ 10000 := by omega
  simp [stN, tlN, bB, df__law_bad, h3, l8, t4]
theorem st_9 {L : List Int} {N : Net} {e5 e7 : En} {S : List D} (h : S.length ≤ 5000) : es (GG n) (stN 9 bB) (bdS L N e5 e7 (.da .o (.lst S))) = .ok .nx (bdS L N e5 e7 (.da .o (.lst (S ++ l9)))) := by
  have h3 : S.length + 3 ≤ 10000 := by omega
  simp [stN, tlN, bB, df__law_bad, h3, l9, t4]
theorem st_10 {L : List Int} {N : Net} {e5 e7 : En} {S : List D} (h : S.length ≤ 5000) : es (GG n) (stN 10 bB) (bdS L N e5 e7 (.da .o (.lst S))) = .ok .nx (bdS L N e5 e7 (.da .o (.lst (S ++ l10)))) := by
  have h3 : S.length + 3 ≤ 10000 := by omega
  simp [stN, tlN, bB, df__law_bad, h3, l10, t4]
theorem st_11 {L : List Int} {N : Net} {S X Q P : List D} (h : S.length ≤ 5000) (hs : slD (.lst Q) none (some 61) = some (true, .lst P)) : es (GG n) (stN 11 bB) (bdS L N (.da .s (.tup X)) (.da .o (.lst Q)) (.da .o (.lst S))) = .ok .nx (bdS L N (.da .s (.tup X)) (.da .o (.lst Q)) (.da .o (.lst (S ++ l11 X P)))) := by
  have h3 : S.length + 4 ≤ 10000 := by omega
  simp [stN, tlN, bB, df__law_bad, h3, l11, t4, hs]
theorem sl_61 : slD (.lst ((prs 0).map bD)) none (some 61) = some (true, .lst (((prs 0).map bD).take 61)) := by
  show some (true, D.lst (cutL ((prs 0).map bD) none (some ((61 : Nat) : Int)))) = _
  rw [cut_to]
theorem st_0 {L : List Int} {N : Net} : es (GG n) (stN 0 bB) [.da .l (.lst (L.map D.int)), .da .s N.d, .un, .un, .un, .un, .un, .un, .un] = .ok .nx (bdS L N .un .un .un) := by
  simp [stN, tlN, bB, df__law_bad, Net.d]
theorem st_1 {L : List Int} {N : Net} : es (GG n) (stN 1 bB) (bdS L N .un .un .un) = .ok .nx (bdS L N sxE .un .un) := by
  have r1 : rngOk 1 7 = true := rfl
  have e1 := clpF (l := [1, 2, 3, 4, 5, 6]) (F := fun i : Int => D.int i) (h := fun i => lD ⟨0, 1, 1, i⟩) (ρ := bdS L N .un .un .un) (f := c__law_bad_1 (GG n)) (fun i hi => by simp [cturn, wp, lD])
  have e2 : clp (c__law_bad_1 (GG n)) (rngL 1 7) (bdS L N .un .un .un) = .ok (sixL.map lD) (bdS L N .un .un .un) := e1
  have hl : (sixL.map lD).length ≤ 10000 := by decide
  unfold sxE
  generalize sixL.map lD = X at *
  simp [stN, tlN, bB, df__law_bad, r1, e2, wp, bk, hl]
theorem st_2 (hn : 1 ≤ n) {L : List Int} {N : Net} {e5 : En} : es (GG n) (stN 2 bB) (bdS L N e5 .un .un) = .ok .nx (bdS L N e5 prE .un) := by
  obtain ⟨n, rfl⟩ := Nat.exists_eq_add_of_le' hn
  have e1 := pairs_0 n
  unfold prE
  generalize (prs 0).map bD = X at *
  simp [stN, tlN, bB, df__law_bad, e1]
def l3 (N : Net) : List D := [.lst [.int N.many, .tup (N.bds.map bD), .tup (N.las.map lD)], .tup [.int N.many, .tup (N.bds.map bD)], .tup [.int N.many, .tup (N.bds.map bD), .tup (N.las.map lD), .tup []], .tup [.int 0, .tup [], .tup []], .tup [.int 17, .tup [], .tup []], .tup [.str "3", .tup (N.bds.map bD), .tup (N.las.map lD)], .non, .tup [], .int 5]
theorem st_3 {L : List Int} {N : Net} {e5 e7 : En} : es (GG n) (stN 3 bB) (bdS L N e5 e7 .un) = .ok .nx (bdS L N e5 e7 (.da .o (.lst (l3 N)))) := by
  have a1 : biD .list [N.d] = some (true, .lst [.int N.many, .tup (N.bds.map bD), .tup (N.las.map lD)]) := rfl
  have a2 : slD N.d none (some 2) = some (false, .tup [.int N.many, .tup (N.bds.map bD)]) := sl_to2
  have a3 : prim2 .add N.d (.tup [.tup []]) = some (false, .tup [.int N.many, .tup (N.bds.map bD), .tup (N.las.map lD), .tup []]) := by
    unfold Net.d
    rw [p_addt, szOk_lit (by simp)]
    rfl
  unfold l3
  generalize hB : N.bds.map bD = B at *
  generalize hC : N.las.map lD = C at *
  simp [stN, tlN, bB, df__law_bad, a1, a2, a3, hB, hC]
def l4 (m : Int) (B C : List D) : List D := [.tup [.int m, .tup (B ++ [t3 0 0 1]), .tup C], .tup [.int m, .tup (B ++ [t3 0 m 1]), .tup C]]
def l5 (m : Int) (B C T : List D) : List D := [.tup [.int m, .tup (B ++ T ++ [t3 0 m 0]), .tup C], .tup [.int m, .lst B, .tup C]]
abbrev beS (L : List Int) (N : Net) (B C : List D) (e5 e7 e8 : En) : List En := [.da .l (.lst (L.map D.int)), .da .s N.d, .da .s (.int N.many), .da .s (.tup B), .da .s (.tup C), e5, .un, e7, e8]
theorem st_4 {L : List Int} {N : Net} {e5 e7 : En} {S B C : List D} (hb : B.length ≤ 100) (h : S.length ≤ 5000) : es (GG n) (stN 4 bB) (beS L N B C e5 e7 (.da .o (.lst S))) = .ok .nx (beS L N B C e5 e7 (.da .o (.lst (S ++ l4 N.many B C)))) := by
  have h3 : S.length + 2 ≤ 10000 := by omega
  have h4 : B.length + 1 ≤ 10000 := by omega
  simp [stN, tlN, bB, df__law_bad, h3, h4, l4, t3]
theorem st_5 {L : List Int} {N : Net} {e5 e7 : En} {S B C T : List D} (hb : B.length ≤ 100) (ht : T.length ≤ 100) (hs : slD (.tup B) (some (-1)) none = some (false, .tup T)) (h : S.length ≤ 5000) : es (GG n) (stN 5 bB) (beS L N B C e5 e7 (.da .o (.lst S))) = .ok .nx (beS L N B C e5 e7 (.da .o (.lst (S ++ l5 N.many B C T)))) := by
  have h3 : S.length + 2 ≤ 10000 := by omega
  have h4 : B.length + T.length ≤ 10000 := by omega
  have h5 : B.length + T.length + 1 ≤ 10000 := by omega
  simp [stN, tlN, bB, df__law_bad, h3, h4, h5, l5, t3, hs]
end
end G
set_option maxHeartbeats 4000000
/-! E24: what _law_bad draws is no net. -/
namespace G
open L2
theorem its_nil : Its [] := ⟨fun _ z => (nomatch z), fun _ z => (nomatch z)⟩
theorem its_cons {x : D} {xs : List D} (h1 : okI x = true) (h2 : itOk x) (h : Its xs) : Its (x :: xs) := its_app (a := []) its_nil h h1 h2
theorem it_t3 {i j w : Int} : itOk (t3 i j w) := tm_items (ts := [i, j, w])
theorem it_t4 {i j w k : Int} : itOk (t4 i j w k) := tm_items (ts := [i, j, w, k])
theorem its_app2 {a b : List D} (ha : Its a) (hb : Its b) : Its (a ++ b) := ⟨fun x hx => (List.mem_append.mp hx).elim (ha.ok x) (hb.ok x), fun x hx => (List.mem_append.mp hx).elim (ha.it x) (hb.it x)⟩
theorem sl_last1 {xs : List D} : slD (.tup xs) (some (-1)) none = some (false, .tup (xs.drop (xs.length - 1))) := by
  show some (false, D.tup (cutL xs (some (-1)) none)) = _
  unfold cutL
  have : HT.sIx xs.length 0 (some (-1)) = xs.length - 1 := by
    unfold HT.sIx
    simp
    omega
  rw [HT.sIx_none, this, List.take_of_length_le (by rw [List.length_drop]; exact Nat.le_refl _)]
theorem bad1 {m : Int} {x : D} (h1 : okI x = true) (h2 : itOk x) (hb : isBndB m x = false) : BadB m (.tup [x]) := .one (its_cons h1 h2 its_nil) x (by simp) hb
theorem badl1 {m : Int} {x : D} (h1 : okI x = true) (h2 : itOk x) (hb : isLstB m x = false) : BadL m (.tup [x]) := .one (its_cons h1 h2 its_nil) x (by simp) hb
theorem bd_of {m i j w : Int} (h : decide (0 ≤ i ∧ i ≤ m - 1 ∧ 0 ≤ j ∧ j ≤ m - 1 ∧ i ≠ j ∧ -100000 ≤ w ∧ w ≤ 100000) = true) : BdOk m ⟨i, j, w⟩ := by
  obtain ⟨a, b, c, d, e, f, g⟩ := of_decide_eq_true h
  exact ⟨a, b, c, d, e, f, g⟩
theorem la_of {m a lo hi c : Int} (h : decide (0 ≤ a ∧ a ≤ m - 1 ∧ 1 ≤ c ∧ c ≤ m - 1 ∧ 1 ≤ lo ∧ hi ≤ 1000 ∧ lo ≤ hi ∧ a ≠ c) = true) : LaOk m ⟨a, lo, hi, c⟩ := by
  obtain ⟨a, b, c, d, e, f, g, k⟩ := of_decide_eq_true h
  exact ⟨a, b, c, d, e, f, g, k⟩
theorem n3l {z : D} (h : BadL 3 z) : NoN (n3 (.tup []) z) := .d (l := []) (by decide) (by decide) (fun _ z => (nomatch z)) (by decide) rfl h
theorem n3b {y z : D} (h : BadB 3 y) : NoN (n3 y z) := .c (by decide) (by decide) h
theorem no_6 {m : Int} (h1 : 1 ≤ m) (h2 : m ≤ 16) : ∀ d ∈ l6 m, NoN d := by
  intro d hd
  simp only [l6, List.mem_cons, List.not_mem_nil, or_false] at hd
  rcases hd with rfl | rfl | rfl
  · exact .c h1 h2 (bad1 rfl it_t3 (by simp [isBndB, t3]))
  · exact .c h1 h2 (bad1 rfl it_t3 (by simp [isBndB, t3]))
  · exact .c h1 h2 (bad1 rfl (fun x hx => by
      simp at hx
      rcases hx with rfl | rfl | rfl <;> rfl) (by simp [isBndB, isWithin]))
theorem no_7 : ∀ d ∈ l7, NoN d := by
  intro d hd
  simp only [l7, List.mem_cons, List.not_mem_nil, or_false] at hd
  rcases hd with rfl | rfl | rfl
  · exact n3b (.chain (l := [⟨0, 1, 1⟩, ⟨0, 1, 2⟩]) (fun b hb => by
      simp at hb
      rcases hb with rfl | rfl <;> exact bd_of (by decide)) (by decide) (by decide))
  · exact n3b (.chain (l := [⟨1, 0, 1⟩, ⟨0, 1, 2⟩]) (fun b hb => by
      simp at hb
      rcases hb with rfl | rfl <;> exact bd_of (by decide)) (by decide) (by decide))
  · exact n3b (bad1 rfl (fun x hx => by
      simp at hx
      rcases hx with rfl | rfl <;> rfl) rfl)
theorem no_8 : ∀ d ∈ l8, NoN d := by
  intro d hd
  simp only [l8, List.mem_cons, List.not_mem_nil, or_false] at hd
  rcases hd with rfl | rfl | rfl
  · exact n3l (badl1 rfl it_t4 (by decide))
  · exact n3l (badl1 rfl it_t4 (by decide))
  · exact n3l (badl1 rfl it_t4 (by decide))
theorem no_9 : ∀ d ∈ l9, NoN d := by
  intro d hd
  simp only [l9, List.mem_cons, List.not_mem_nil, or_false] at hd
  rcases hd with rfl | rfl | rfl
  · exact n3l (badl1 rfl it_t4 (by decide))
  · exact n3l (badl1 rfl it_t4 (by decide))
  · exact n3l (.root (l := [⟨1, 1, 1, 2⟩, ⟨2, 1, 1, 1⟩]) (fun b hb => by
      simp at hb
      rcases hb with rfl | rfl <;> exact la_of (by decide)) (by decide) (by decide) ring_no)
theorem no_10 : ∀ d ∈ l10, NoN d := by
  intro d hd
  simp only [l10, List.mem_cons, List.not_mem_nil, or_false] at hd
  rcases hd with rfl | rfl | rfl
  · exact n3l (.root (l := [⟨0, 1, 1, 1⟩, ⟨0, 1, 2, 1⟩]) (fun b hb => by
      simp at hb
      rcases hb with rfl | rfl <;> exact la_of (by decide)) (by decide) (by decide) twice_no)
  · exact n3l (.chain (l := [⟨0, 1, 1, 2⟩, ⟨0, 1, 1, 1⟩]) (fun b hb => by
      simp at hb
      rcases hb with rfl | rfl <;> exact la_of (by decide)) (by decide) (by decide))
  · exact n3l (.size rfl rfl)
theorem no_11 : ∀ d ∈ l11 (sixL.map lD) (((prs 0).map bD).take 61), NoN d := by
  intro d hd
  simp only [l11, List.mem_cons, List.not_mem_nil, or_false] at hd
  rcases hd with rfl | rfl | rfl | rfl
  · exact .d (l := []) (by decide) (by decide) (fun _ z => (nomatch z)) (by decide) rfl (.size rfl (by decide))
  · exact .c (by decide) (by decide) (.size rfl (by decide +kernel))
  · exact n3l (badl1 rfl it_t4 (by decide))
  · exact n3l (badl1 rfl (fun x hx => by
      simp at hx
      rcases hx with rfl | rfl | rfl <;> rfl) rfl)
theorem no_3 {N : Net} (h : NetOk N) : ∀ d ∈ l3 N, NoN d := by
  intro d hd
  simp only [l3, List.mem_cons, List.not_mem_nil, or_false] at hd
  rcases hd with rfl | rfl | rfl | rfl | rfl | rfl | rfl | rfl | rfl
  · exact .a rfl rfl
  · exact .a rfl rfl
  · exact .a rfl rfl
  · exact .b rfl rfl
  · exact .b rfl rfl
  · exact .b rfl rfl
  · exact .a rfl rfl
  · exact .a rfl rfl
  · exact .a rfl rfl
theorem no_4 {N : Net} (h : NetOk N) : ∀ d ∈ l4 N.many (N.bds.map bD) (N.las.map lD), NoN d := by
  intro d hd
  have h1 := h.m1
  simp only [l4, List.mem_cons, List.not_mem_nil, or_false] at hd
  rcases hd with rfl | rfl
  · exact .c h.m1 h.m2 (.one (its_app2 its_b (its_cons rfl it_t3 its_nil)) (t3 0 0 1) (by simp) (by simp [isBndB, t3]))
  · exact .c h.m1 h.m2 (.one (its_app2 its_b (its_cons rfl it_t3 its_nil)) (t3 0 N.many 1) (by simp) (by
      simp [isBndB, t3]
      intros
      omega))
theorem no_5 {N : Net} (h : NetOk N) : ∀ d ∈ l5 N.many (N.bds.map bD) (N.las.map lD) ((N.bds.map bD).drop ((N.bds.map bD).length - 1)), NoN d := by
  intro d hd
  have h1 := h.m1
  simp only [l5, List.mem_cons, List.not_mem_nil, or_false] at hd
  rcases hd with rfl | rfl
  · exact .c h.m1 h.m2 (.one (its_app2 (its_app2 its_b (its_drop its_b)) (its_cons rfl it_t3 its_nil)) (t3 0 N.many 0) (by simp) (by
      simp [isBndB, t3]
      intros
      omega))
  · exact .c h.m1 h.m2 (.size rfl rfl)
section
variable {n : Nat}
theorem bad_ok (hn : 6 ≤ n) {L : List Int} {N : Net} (h : NetOk N) (m2 : 2 ≤ N.many) : ∃ (L' : List Int) (d : D), Φ n k__law_bad [.da .l (.lst (L.map D.int)), .da .s N.d] = .ok false d [.da .l (.lst (L'.map D.int)), .da .s N.d] ∧ NoN d := by
  obtain ⟨n, rfl⟩ := Nat.exists_eq_add_of_le' hn
  have bl := h.bl
  obtain ⟨out, eF, lF, hF⟩ := flagN (n := n + 5) (by omega) h m2
  have hB : (N.bds.map bD).length ≤ 100 := by rw [List.length_map]; omega
  obtain ⟨T, hT⟩ : ∃ T, T = (N.bds.map bD).drop ((N.bds.map bD).length - 1) := ⟨_, rfl⟩
  have hTl : T.length ≤ 100 := by rw [hT, List.length_drop]; omega
  have sT : slD (.tup (N.bds.map bD)) (some (-1)) none = some (false, .tup T) := by rw [hT]; exact sl_last1
  have n5 := no_5 h
  rw [← hT] at n5
  have n4 := no_4 h
  have n3' := no_3 h
  have n6 := no_6 h.m1 h.m2
  have n11 := no_11
  have q3 : (l3 N).length = 9 := rfl
  obtain ⟨S4, hS4⟩ : ∃ S, S = l3 N ++ l4 N.many (N.bds.map bD) (N.las.map lD) := ⟨_, rfl⟩
  have q4 : S4.length = 11 := by rw [hS4, List.length_append]; rfl
  obtain ⟨S5, hS5⟩ : ∃ S, S = S4 ++ l5 N.many (N.bds.map bD) (N.las.map lD) T := ⟨_, rfl⟩
  have q5 : S5.length = 13 := by rw [hS5, List.length_append, q4]; rfl
  obtain ⟨S6, hS6⟩ : ∃ S, S = S5 ++ l6 N.many := ⟨_, rfl⟩
  have q6 : S6.length = 16 := by rw [hS6, List.length_append, q5]; rfl
  obtain ⟨S7, hS7⟩ : ∃ S, S = S6 ++ l7 := ⟨_, rfl⟩
  have q7 : S7.length = 19 := by rw [hS7, List.length_append, q6]; rfl
  obtain ⟨S8, hS8⟩ : ∃ S, S = S7 ++ l8 := ⟨_, rfl⟩
  have q8 : S8.length = 22 := by rw [hS8, List.length_append, q7]; rfl
  obtain ⟨S9, hS9⟩ : ∃ S, S = S8 ++ l9 := ⟨_, rfl⟩
  have q9 : S9.length = 25 := by rw [hS9, List.length_append, q8]; rfl
  obtain ⟨S10, hS10⟩ : ∃ S, S = S9 ++ l10 := ⟨_, rfl⟩
  have q10 : S10.length = 28 := by rw [hS10, List.length_append, q9]; rfl
  obtain ⟨S11, hS11⟩ : ∃ S, S = S10 ++ l11 (sixL.map lD) (((prs 0).map bD).take 61) := ⟨_, rfl⟩
  have q11 : S11.length = 32 := by rw [hS11, List.length_append, q10]; rfl
  have hAll : ∀ d ∈ S11 ++ out, NoN d := by
    rw [hS11, hS10, hS9, hS8, hS7, hS6, hS5, hS4]
    intro d hd
    simp only [List.mem_append] at hd
    rcases hd with ((((((((hd | hd) | hd) | hd) | hd) | hd) | hd) | hd) | hd) | hd
    · exact n3' d hd
    · exact n4 d hd
    · exact n5 d hd
    · exact n6 d hd
    · exact no_7 d hd
    · exact no_8 d hd
    · exact no_9 d hd
    · exact no_10 d hd
    · exact n11 d hd
    · exact hF d hd
  obtain ⟨S, hS⟩ : ∃ S, S = S11 ++ out := ⟨_, rfl⟩
  have hSl : S.length = 32 + out.length := by rw [hS, List.length_append, q11]
  rw [← hS] at hAll
  have g1 : 0 < (S.length : Int) := by omega
  have t2 := take_ok (n := n + 5) (by omega) (L := L) g1
  have r2 := tkR_0 (L := L) g1
  have r3 := tkR_lt (L := L) g1
  obtain ⟨b, hb⟩ := Int.eq_ofNat_of_zero_le r2
  rw [hb] at t2 r3
  have hbS : b < S.length := by omega
  have hi : idxD (.lst S) (.int (b : Int)) = some S[b] := idx_natl (List.getElem?_eq_getElem hbS)
  refine ⟨tkL L, S[b], ?_, hAll _ (List.getElem_mem _)⟩
  generalize S[b] = d at *
  refine Eq.trans (phi_df fs__law_bad rfl) ?_
  have pa : prim2 .add (.lst S11) (.lst out) = some (true, .lst S) := by
    rw [p_addl, szOk_lit (by omega), hS]
    rfl
  have e0 := ess_hd (g := GG (n + 5)) (b := bB) (r := tlN 1 bB) rfl (st_0 (L := L) (N := N))
  have e1 := ess_hd (g := GG (n + 5)) (b := tlN 1 bB) (r := tlN 2 bB) rfl (st_1 (L := L) (N := N))
  have e2 := ess_hd (g := GG (n + 5)) (b := tlN 2 bB) (r := tlN 3 bB) rfl (st_2 (by omega) (L := L) (N := N) (e5 := sxE))
  have e3 := ess_hd (g := GG (n + 5)) (b := tlN 3 bB) (r := tlN 4 bB) rfl (st_3 (L := L) (N := N) (e5 := sxE) (e7 := prE))
  have e4 := ess_hd (g := GG (n + 5)) (b := tlN 4 bB) (r := tlN 5 bB) rfl (st_4 (L := L) (N := N) (e5 := sxE) (e7 := prE) (S := l3 N) (B := N.bds.map bD) (C := N.las.map lD) hB (by omega))
  rw [← hS4] at e4
  have e5 := ess_hd (g := GG (n + 5)) (b := tlN 5 bB) (r := tlN 6 bB) rfl (st_5 (L := L) (N := N) (e5 := sxE) (e7 := prE) (S := S4) (B := N.bds.map bD) (C := N.las.map lD) (T := T) hB hTl sT (by omega))
  rw [← hS5] at e5
  have e6 := ess_hd (g := GG (n + 5)) (b := tlN 6 bB) (r := tlN 7 bB) rfl (st_6 (L := L) (N := N) (e5 := sxE) (e7 := prE) (S := S5) (by omega))
  rw [← hS6] at e6
  have e7 := ess_hd (g := GG (n + 5)) (b := tlN 7 bB) (r := tlN 8 bB) rfl (st_7 (L := L) (N := N) (e5 := sxE) (e7 := prE) (S := S6) (by omega))
  rw [← hS7] at e7
  have e8 := ess_hd (g := GG (n + 5)) (b := tlN 8 bB) (r := tlN 9 bB) rfl (st_8 (L := L) (N := N) (e5 := sxE) (e7 := prE) (S := S7) (by omega))
  rw [← hS8] at e8
  have e9 := ess_hd (g := GG (n + 5)) (b := tlN 9 bB) (r := tlN 10 bB) rfl (st_9 (L := L) (N := N) (e5 := sxE) (e7 := prE) (S := S8) (by omega))
  rw [← hS9] at e9
  have e10 := ess_hd (g := GG (n + 5)) (b := tlN 10 bB) (r := tlN 11 bB) rfl (st_10 (L := L) (N := N) (e5 := sxE) (e7 := prE) (S := S9) (by omega))
  rw [← hS10] at e10
  have e11 := ess_hd (g := GG (n + 5)) (b := tlN 11 bB) (r := tlN 12 bB) rfl (st_11 (L := L) (N := N) (X := sixL.map lD) (S := S10) (by omega) sl_61)
  rw [← hS11] at e11
  refine (congrArg (endD 2) (e0.trans (e1.trans (e2.trans (e3.trans (e4.trans (e5.trans (e6.trans (e7.trans (e8.trans (e9.trans (e10.trans e11))))))))))) ).trans ?_
  generalize (prs 0).map bD = Q at *
  generalize sixL.map lD = X at *
  simp [tlN, bB, df__law_bad, eF, pa, t2, hi, -p_addl]
end
end G
set_option maxHeartbeats 8000000
/-! K01: law_k01 answers True. -/
namespace G
open L2
section
variable {n : Nat}
def fiveL : List La := [⟨0, 1, 1000, 1⟩, ⟨0, 1, 1000, 2⟩, ⟨0, 1, 1000, 3⟩, ⟨0, 1, 1000, 4⟩, ⟨0, 1, 1000, 5⟩]
theorem root0 : Rooted [] := ⟨List.nodup_nil, fun _ => 0, fun _ z => (nomatch z)⟩
theorem net_e {m : Int} (h1 : 1 ≤ m) (h2 : m ≤ 16) : NetOk ⟨m, [], []⟩ := ⟨h1, h2, fun _ z => (nomatch z), Nat.zero_le _, rfl, fun _ z => (nomatch z), Nat.zero_le _, rfl, root0⟩
theorem net_7 : NetOk ⟨7, [], fiveL⟩ := ⟨by decide, by decide, fun _ z => (nomatch z), Nat.zero_le _, rfl, fun l hl => by
  simp [fiveL] at hl
  rcases hl with rfl | rfl | rfl | rfl | rfl <;> exact la_of (by decide), by decide, by decide, ⟨by decide, fun c => if c = 0 then 0 else 1, fun l hl => by
  simp [fiveL] at hl
  rcases hl with rfl | rfl | rfl | rfl | rfl <;> decide⟩⟩
theorem net_2 : NetOk ⟨2, [⟨1, 0, -100000⟩], []⟩ := ⟨by decide, by decide, fun b hb => by
  simp at hb
  rw [hb]
  exact bd_of (by decide), by decide, rfl, fun _ z => (nomatch z), Nat.zero_le _, rfl, root0⟩
theorem net_9 : NetOk ⟨9, (prs 100000).take 60, []⟩ := by
  have ha : ((prs 100000).take 60).all (fun b => decide (0 ≤ b.i ∧ b.i ≤ 9 - 1 ∧ 0 ≤ b.j ∧ b.j ≤ 9 - 1 ∧ b.i ≠ b.j ∧ -100000 ≤ b.w ∧ b.w ≤ 100000)) = true := by decide +kernel
  exact ⟨by decide, by decide, fun b hb => bd_of (List.all_eq_true.mp ha b hb), by decide +kernel, by decide +kernel, fun _ z => (nomatch z), Nat.zero_le _, rfl, root0⟩
abbrev k1S (ns L : List Int) (N : Net) (F : List D) (P : List D) (e6 e7 e8 : En) : List En :=
  [.da .s (.lst (ns.map D.int)), .da .o (.lst (L.map D.int)), .da .s N.d, .da .s (.tup F), .un, .da .o (.lst P), e6, e7, e8]
theorem k1_right (hn : 5 ≤ n) {ns L : List Int} {N : Net} {F P : List D} {e7 e8 : En} {xs : List D} (hx : ∀ d ∈ xs, ∃ M : Net, NetOk M ∧ d = M.d) : ∃ e6, flp (f_law_v3_2 (GG n)) xs (k1S ns L N F P .un e7 e8) = .ok .nx (k1S ns L N F P e6 e7 e8) := by
  obtain ⟨ρ', e, e6, rfl, f6⟩ := flp_inv (f := f_law_v3_2 (GG n)) (xs := xs) (ρ := k1S ns L N F P .un e7 e8)
    (fun i ρ => ∃ e6, ρ = k1S ns L N F P e6 e7 e8 ∧ Fr e6) ⟨_, rfl, .un⟩ (by
    rintro i x ρ hxi ⟨e6, rfl, f6⟩
    obtain ⟨M, hM, rfl⟩ := hx x (List.mem_of_getElem? hxi)
    have e := is_net_ok (n := n) hn hM
    have k2 : prim2 .nisB (.bl true) (.bl true) = some (false, .bl false) := rfl
    exact ⟨k1S ns L N F P (.da .s M.d) e7 e8, .inl (by simp [fturn, stE_fr, f6, e, k2]), _, rfl, .s⟩)
  exact ⟨e6, e⟩
theorem k1_turn1 (hn : 8 ≤ n) {ns L : List Int} {N : Net} {F P : List D} {e6 e7 e8 : En} {t : Int} (h : NetOk N) (m2 : 2 ≤ N.many) (f7 : Fr e7) (f8 : Fr e8) :
    ∃ (L' : List Int) (e8' : En), f_law_v3_1 (GG n) (.int t) (k1S ns L N F P e6 e7 e8) = .ok .nx (k1S ns L' N F P e6 (.da .s (.int t)) e8') ∧ Fr e8' := by
  obtain ⟨L', d, e, hd⟩ := bad_ok (n := n) (by omega) (L := L) h m2
  have e1 := is_net_bad (n := n) (by omega) hd
  have e2 := refused_ok (n := n) hn hd
  have k2 : prim2 .nisB (.bl false) (.bl false) = some (false, .bl false) := rfl
  exact ⟨L', .da .s d, by simp [fturn, stE_fr, f7, f8, e, e1, e2, k2], .s⟩
theorem law_k01 {ns : List Int} : ∃ o fin, Φ (n + 10) k_law_v3 [.da .s (.lst (ns.map D.int))] = .ok o (.bl true) fin := by
  obtain ⟨L0, hD⟩ := dfD_ok (n := n + 8) (ns := ns) (m := 160) (sd := 13) (by decide) (by decide)
  have eD : Φ (n + 9) k__law_draws_v3 [.da .s (.lst (ns.map D.int)), .da .s (.int 160)] = .ok true (.lst (L0.map D.int)) [.da .s (.lst (ns.map D.int)), .da .s (.int 160)] := (phi_run fs__law_draws_v3).trans hD
  obtain ⟨L, N, eN, h, n1, n2, n3, n4, n5⟩ := net_ok (n := n + 9) (by omega) (L := L0) (le := 2) (mo := 6) (en := 3) (by decide) (by decide) (by decide) (by decide)
  have r1 : rngOk 1 6 = true := rfl
  have r4 : rngOk 0 4 = true := rfl
  have e3 := clpF (l := [1, 2, 3, 4, 5]) (F := fun i : Int => D.int i) (h := fun i => lD ⟨0, 1, 1000, i⟩) (ρ := [.da .s (.lst (ns.map D.int)), .da .o (.lst (L.map D.int)), .da .s N.d, .un, .un, .un, .un, .un, .un]) (f := c_law_v3_3 (GG (n + 9))) (fun i hi => by simp [cturn, wp, lD])
  have e3' : clp (c_law_v3_3 (GG (n + 9))) (rngL 1 6) [.da .s (.lst (ns.map D.int)), .da .o (.lst (L.map D.int)), .da .s N.d, .un, .un, .un, .un, .un, .un] = .ok (fiveL.map lD) [.da .s (.lst (ns.map D.int)), .da .o (.lst (L.map D.int)), .da .s N.d, .un, .un, .un, .un, .un, .un] := e3
  have l3 : (fiveL.map lD).length ≤ 10000 := by decide
  have eP := pairs_w (n + 8)
  have s60 : slD (.lst ((prs 100000).map bD)) none (some 60) = some (true, .lst (((prs 100000).take 60).map bD)) := by
    show some (true, D.lst (cutL ((prs 100000).map bD) none (some ((60 : Nat) : Int)))) = _
    rw [cut_to, List.map_take]
  have l60 : (((prs 100000).take 60).map bD).length ≤ 10000 := by decide +kernel
  have hx : ∀ d ∈ [N.d, .tup [.int 1, .tup [], .tup []], .tup [.int 16, .tup [], .tup []], .tup [.int 7, .tup [], .tup (fiveL.map lD)], .tup [.int 9, .tup (((prs 100000).take 60).map bD), .tup []], .tup [.int 2, .tup [.tup [.int 1, .int 0, .int (-100000)]], .tup []]], ∃ M : Net, NetOk M ∧ d = M.d := by
    intro d hd
    simp only [List.mem_cons, List.not_mem_nil, or_false] at hd
    rcases hd with rfl | rfl | rfl | rfl | rfl | rfl
    · exact ⟨N, h, rfl⟩
    · exact ⟨_, net_e (m := 1) (by decide) (by decide), rfl⟩
    · exact ⟨_, net_e (m := 16) (by decide) (by decide), rfl⟩
    · exact ⟨_, net_7, rfl⟩
    · exact ⟨_, net_9, rfl⟩
    · exact ⟨_, net_2, rfl⟩
  generalize fiveL.map lD = F at *
  generalize ((prs 100000).take 60).map bD = P60 at *
  generalize (prs 100000).map bD = P at *
  obtain ⟨e6, eR⟩ := k1_right (n := n + 9) (by omega) (ns := ns) (L := L) (N := N) (F := F) (P := P) (e7 := .un) (e8 := .un) hx
  obtain ⟨ρ', eT, L', e7, e8, rfl, _⟩ := flp_inv (f := f_law_v3_1 (GG (n + 9))) (xs := rngL 0 4) (ρ := k1S ns L N F P e6 .un .un)
    (fun i ρ => ∃ (L' : List Int) (e7 e8 : En), ρ = k1S ns L' N F P e6 e7 e8 ∧ Fr e7 ∧ Fr e8) ⟨_, _, _, rfl, .un, .un⟩ (by
    rintro i x ρ hx ⟨L', e7, e8, rfl, f7, f8⟩
    rw [rng0_get hx]
    obtain ⟨L2, e8', e, f8'⟩ := k1_turn1 (n := n + 9) (by omega) (ns := ns) (L := L') (F := F) (P := P) (e6 := e6) (t := (i : Int)) h n1 f7 f8
    exact ⟨_, .inl e, L2, _, e8', rfl, .s, f8'⟩)
  refine ⟨false, [.da .s (.lst (ns.map D.int))], Eq.trans (phi_df fs_law_v3 rfl) ?_⟩
  simp [eD, eN, r1, e3', wp, bk, l3, eP, s60, eR, r4, eT]
end
end G
set_option maxHeartbeats 4000000
/-! the text of law_k01_nets_judged (printed by gen2.py) -/
namespace K01
open PySem PySem.Spec PyProof.Rows L2 G
def top (i : Nat) : Stmt := PySem.Challenge.pw_howeverlong_k01_nets_judged.main.body.getD i (.Pass ⟨0, 0, 0, 0⟩)
def d_is_int : DI := ⟨"is_int", ["thing"], df_is_int, defArgs (top 5), defBody (top 5), defScope (top 5)⟩
def d_is_within : DI := ⟨"is_within", ["thing", "low", "high"], df_is_within, defArgs (top 6), defBody (top 6), defScope (top 6)⟩
def d_is_sized : DI := ⟨"is_sized", ["thing", "least", "most"], df_is_sized, defArgs (top 7), defBody (top 7), defScope (top 7)⟩
def d_is_rising : DI := ⟨"is_rising", ["some", "one", "other"], df_is_rising, defArgs (top 8), defBody (top 8), defScope (top 8)⟩
def d_is_last : DI := ⟨"is_last", ["many", "thing"], df_is_last, defArgs (top 15), defBody (top 15), defScope (top 15)⟩
def d_are_rooted : DI := ⟨"are_rooted", ["lasts", "begins", "last", "event", "here", "steps"], df_are_rooted, defArgs (top 16), defBody (top 16), defScope (top 16)⟩
def d_are_lasts : DI := ⟨"are_lasts", ["many", "thing", "one"], df_are_lasts, defArgs (top 17), defBody (top 17), defScope (top 17)⟩
def d_is_bound : DI := ⟨"is_bound", ["many", "thing"], df_is_bound, defArgs (top 18), defBody (top 18), defScope (top 18)⟩
def d_are_bounds : DI := ⟨"are_bounds", ["many", "thing", "one", "other"], df_are_bounds, defArgs (top 19), defBody (top 19), defScope (top 19)⟩
def d_is_net : DI := ⟨"is_net", ["thing"], df_is_net, defArgs (top 20), defBody (top 20), defScope (top 20)⟩
def d_check_net : DI := ⟨"check_net", ["net"], df_check_net, defArgs (top 21), defBody (top 21), defScope (top 21)⟩
def d_raw_ends : DI := ⟨"raw_ends", ["net", "last"], df_raw_ends, defArgs (top 22), defBody (top 22), defScope (top 22)⟩
def d_raw_ours : DI := ⟨"raw_ours", ["net", "ends", "event"], df_raw_ours, defArgs (top 23), defBody (top 23), defScope (top 23)⟩
def d_raw_last_of : DI := ⟨"raw_last_of", ["net", "event", "numbers", "k", "last"], df_raw_last_of, defArgs (top 24), defBody (top 24), defScope (top 24)⟩
def d_ends_of : DI := ⟨"ends_of", ["net"], df_ends_of, defArgs (top 25), defBody (top 25), defScope (top 25)⟩
def d_ours_of : DI := ⟨"ours_of", ["net"], df_ours_of, defArgs (top 26), defBody (top 26), defScope (top 26)⟩
def d_last_of : DI := ⟨"last_of", ["net", "c"], df_last_of, defArgs (top 27), defBody (top 27), defScope (top 27)⟩
def d_raw_all_bounds : DI := ⟨"raw_all_bounds", ["net", "found", "a", "low", "high", "c", "event"], df_raw_all_bounds, defArgs (top 28), defBody (top 28), defScope (top 28)⟩
def d_all_bounds : DI := ⟨"all_bounds", ["net"], df_all_bounds, defArgs (top 29), defBody (top 29), defScope (top 29)⟩
def d_raw_horizon : DI := ⟨"raw_horizon", ["net", "bound", "last"], df_raw_horizon, defArgs (top 30), defBody (top 30), defScope (top 30)⟩
def d_horizon : DI := ⟨"horizon", ["net"], df_horizon, defArgs (top 31), defBody (top 31), defScope (top 31)⟩
def d__law_draws_v3 : DI := ⟨"_law_draws", ["script", "many", "row", "big", "k", "seed", "cell"], df__law_draws_v3, defArgs (top 33), defBody (top 33), defScope (top 33)⟩
def d__law_take : DI := ⟨"_law_take", ["draws", "many"], df__law_take, defArgs (top 34), defBody (top 34), defScope (top 34)⟩
def d__law_order : DI := ⟨"_law_order", ["draws", "many", "left", "out", "k"], df__law_order, defArgs (top 35), defBody (top 35), defScope (top 35)⟩
def d__law_lasts : DI := ⟨"_law_lasts", ["draws", "order", "most", "wide", "out", "at", "low", "high"], df__law_lasts, defArgs (top 36), defBody (top 36), defScope (top 36)⟩
def d__law_bounds : DI := ⟨"_law_bounds", ["draws", "many", "most", "low", "wide", "told", "k", "i", "j", "pair"], df__law_bounds, defArgs (top 37), defBody (top 37), defScope (top 37)⟩
def d__law_couple : DI := ⟨"_law_couple", ["draws", "told", "last", "x", "a", "low", "high", "c", "kind", "ahead"], df__law_couple, defArgs (top 38), defBody (top 38), defScope (top 38)⟩
def d__law_net : DI := ⟨"_law_net", ["draws", "least", "most", "ends", "many", "lasts", "there", "last", "ours", "told", "event", "i", "j", "w", "pair"], df__law_net, defArgs (top 39), defBody (top 39), defScope (top 39)⟩
def d__law_flagged : DI := ⟨"_law_flagged", ["thing", "out", "k", "part"], df__law_flagged, defArgs (top 40), defBody (top 40), defScope (top 40)⟩
def d__law_pairs : DI := ⟨"_law_pairs", ["many", "w", "out", "i", "j"], df__law_pairs, defArgs (top 41), defBody (top 41), defScope (top 41)⟩
def d__law_bad : DI := ⟨"_law_bad", ["draws", "net", "many", "bounds", "lasts", "six", "c", "pairs", "some"], df__law_bad, defArgs (top 42), defBody (top 42), defScope (top 42)⟩
def d__law_are_refused : DI := ⟨"_law_are_refused", ["thing", "ask", "error"], df__law_are_refused, defArgs (top 43), defBody (top 43), defScope (top 43)⟩
def d_law_v3 : DI := ⟨"law", ["script", "draws", "net", "five", "c", "pairs", "right", "turn", "bad"], df_law_v3, defArgs (top 44), defBody (top 44), defScope (top 44)⟩
def tF0 : List (PySem.Str × Nat) := [("is_int", 1), ("is_within", 2), ("is_sized", 3), ("is_rising", 4), ("is_last", 5), ("are_rooted", 6), ("are_lasts", 7), ("is_bound", 8), ("are_bounds", 9), ("is_net", 10), ("check_net", 11), ("raw_ends", 12), ("raw_ours", 13), ("raw_last_of", 14), ("ends_of", 15), ("ours_of", 16), ("last_of", 17), ("raw_all_bounds", 18), ("all_bounds", 19), ("raw_horizon", 20), ("horizon", 21), ("_law_draws", 45), ("_law_take", 23), ("_law_order", 24)]
def tF1 : List (PySem.Str × Nat) := [("_law_lasts", 25), ("_law_bounds", 26), ("_law_couple", 27), ("_law_net", 28), ("_law_flagged", 41), ("_law_pairs", 46), ("_law_bad", 47), ("_law_are_refused", 48), ("law", 49)]
def tx : LT where
  F := tF0 ++ tF1
  C := [("PlanError", 1), ("NoNet", 2), ("NoEnd", 3)]
  B := [("ValueError", 900)]
  G := [("MOST_EVENTS", 5), ("MOST_LASTS", 2), ("MOST_LENGTH", 1), ("MOST_BOUNDS", 4), ("MOST_WORTH", 3)]
  gv := GV0
  fs := FS
  sub := sub0
  ds := [(1, d_is_int), (2, d_is_within), (3, d_is_sized), (4, d_is_rising), (5, d_is_last), (6, d_are_rooted), (7, d_are_lasts), (8, d_is_bound), (9, d_are_bounds), (10, d_is_net), (11, d_check_net), (12, d_raw_ends), (13, d_raw_ours), (14, d_raw_last_of), (15, d_ends_of), (16, d_ours_of), (17, d_last_of), (18, d_raw_all_bounds), (19, d_all_bounds), (20, d_raw_horizon), (21, d_horizon), (45, d__law_draws_v3), (23, d__law_take), (24, d__law_order), (25, d__law_lasts), (26, d__law_bounds), (27, d__law_couple), (28, d__law_net), (41, d__law_flagged), (46, d__law_pairs), (47, d__law_bad), (48, d__law_are_refused), (49, d_law_v3)]
theorem ch_is_int : d_is_int.chk tx.nm = true := by decide +kernel
theorem bn_is_int : d_is_int.Bn := fun _ _ _ _ _ _ us hl => match us, hl with | [_], _ => rfl
theorem ch_is_within : d_is_within.chk tx.nm = true := by decide +kernel
theorem bn_is_within : d_is_within.Bn := fun _ _ _ _ _ _ us hl => match us, hl with | [_, _, _], _ => rfl
theorem ch_is_sized : d_is_sized.chk tx.nm = true := by decide +kernel
theorem bn_is_sized : d_is_sized.Bn := fun _ _ _ _ _ _ us hl => match us, hl with | [_, _, _], _ => rfl
theorem ch_is_rising : d_is_rising.chk tx.nm = true := by decide +kernel
theorem bn_is_rising : d_is_rising.Bn := fun _ _ _ _ _ _ us hl => match us, hl with | [_], _ => rfl
theorem ch_is_last : d_is_last.chk tx.nm = true := by decide +kernel
theorem bn_is_last : d_is_last.Bn := fun _ _ _ _ _ _ us hl => match us, hl with | [_, _], _ => rfl
theorem ch_are_rooted : d_are_rooted.chk tx.nm = true := by decide +kernel
theorem bn_are_rooted : d_are_rooted.Bn := fun _ _ _ _ _ _ us hl => match us, hl with | [_], _ => rfl
theorem ch_are_lasts : d_are_lasts.chk tx.nm = true := by decide +kernel
theorem bn_are_lasts : d_are_lasts.Bn := fun _ _ _ _ _ _ us hl => match us, hl with | [_, _], _ => rfl
theorem ch_is_bound : d_is_bound.chk tx.nm = true := by decide +kernel
theorem bn_is_bound : d_is_bound.Bn := fun _ _ _ _ _ _ us hl => match us, hl with | [_, _], _ => rfl
theorem ch_are_bounds : d_are_bounds.chk tx.nm = true := by decide +kernel
theorem bn_are_bounds : d_are_bounds.Bn := fun _ _ _ _ _ _ us hl => match us, hl with | [_, _], _ => rfl
theorem ch_is_net : d_is_net.chk tx.nm = true := by decide +kernel
theorem bn_is_net : d_is_net.Bn := fun _ _ _ _ _ _ us hl => match us, hl with | [_], _ => rfl
theorem ch_check_net : d_check_net.chk tx.nm = true := by decide +kernel
theorem bn_check_net : d_check_net.Bn := fun _ _ _ _ _ _ us hl => match us, hl with | [_], _ => rfl
theorem ch_raw_ends : d_raw_ends.chk tx.nm = true := by decide +kernel
theorem bn_raw_ends : d_raw_ends.Bn := fun _ _ _ _ _ _ us hl => match us, hl with | [_], _ => rfl
theorem ch_raw_ours : d_raw_ours.chk tx.nm = true := by decide +kernel
theorem bn_raw_ours : d_raw_ours.Bn := fun _ _ _ _ _ _ us hl => match us, hl with | [_], _ => rfl
theorem ch_raw_last_of : d_raw_last_of.chk tx.nm = true := by decide +kernel
theorem bn_raw_last_of : d_raw_last_of.Bn := fun _ _ _ _ _ _ us hl => match us, hl with | [_, _], _ => rfl
theorem ch_ends_of : d_ends_of.chk tx.nm = true := by decide +kernel
theorem bn_ends_of : d_ends_of.Bn := fun _ _ _ _ _ _ us hl => match us, hl with | [_], _ => rfl
theorem ch_ours_of : d_ours_of.chk tx.nm = true := by decide +kernel
theorem bn_ours_of : d_ours_of.Bn := fun _ _ _ _ _ _ us hl => match us, hl with | [_], _ => rfl
theorem ch_last_of : d_last_of.chk tx.nm = true := by decide +kernel
theorem bn_last_of : d_last_of.Bn := fun _ _ _ _ _ _ us hl => match us, hl with | [_, _], _ => rfl
theorem ch_raw_all_bounds : d_raw_all_bounds.chk tx.nm = true := by decide +kernel
theorem bn_raw_all_bounds : d_raw_all_bounds.Bn := fun _ _ _ _ _ _ us hl => match us, hl with | [_], _ => rfl
theorem ch_all_bounds : d_all_bounds.chk tx.nm = true := by decide +kernel
theorem bn_all_bounds : d_all_bounds.Bn := fun _ _ _ _ _ _ us hl => match us, hl with | [_], _ => rfl
theorem ch_raw_horizon : d_raw_horizon.chk tx.nm = true := by decide +kernel
theorem bn_raw_horizon : d_raw_horizon.Bn := fun _ _ _ _ _ _ us hl => match us, hl with | [_], _ => rfl
theorem ch_horizon : d_horizon.chk tx.nm = true := by decide +kernel
theorem bn_horizon : d_horizon.Bn := fun _ _ _ _ _ _ us hl => match us, hl with | [_], _ => rfl
theorem ch__law_draws_v3 : d__law_draws_v3.chk tx.nm = true := by decide +kernel
theorem bn__law_draws_v3 : d__law_draws_v3.Bn := fun _ _ _ _ _ _ us hl => match us, hl with | [_, _], _ => rfl
theorem ch__law_take : d__law_take.chk tx.nm = true := by decide +kernel
theorem bn__law_take : d__law_take.Bn := fun _ _ _ _ _ _ us hl => match us, hl with | [_, _], _ => rfl
theorem ch__law_order : d__law_order.chk tx.nm = true := by decide +kernel
theorem bn__law_order : d__law_order.Bn := fun _ _ _ _ _ _ us hl => match us, hl with | [_, _], _ => rfl
theorem ch__law_lasts : d__law_lasts.chk tx.nm = true := by decide +kernel
theorem bn__law_lasts : d__law_lasts.Bn := fun _ _ _ _ _ _ us hl => match us, hl with | [_, _, _, _], _ => rfl
theorem ch__law_bounds : d__law_bounds.chk tx.nm = true := by decide +kernel
theorem bn__law_bounds : d__law_bounds.Bn := fun _ _ _ _ _ _ us hl => match us, hl with | [_, _, _, _, _], _ => rfl
theorem ch__law_couple : d__law_couple.chk tx.nm = true := by decide +kernel
theorem bn__law_couple : d__law_couple.Bn := fun _ _ _ _ _ _ us hl => match us, hl with | [_, _, _, _], _ => rfl
theorem ch__law_net : d__law_net.chk tx.nm = true := by decide +kernel
theorem bn__law_net : d__law_net.Bn := fun _ _ _ _ _ _ us hl => match us, hl with | [_, _, _, _], _ => rfl
theorem ch__law_flagged : d__law_flagged.chk tx.nm = true := by decide +kernel
theorem bn__law_flagged : d__law_flagged.Bn := fun _ _ _ _ _ _ us hl => match us, hl with | [_], _ => rfl
theorem ch__law_pairs : d__law_pairs.chk tx.nm = true := by decide +kernel
theorem bn__law_pairs : d__law_pairs.Bn := fun _ _ _ _ _ _ us hl => match us, hl with | [_, _], _ => rfl
theorem ch__law_bad : d__law_bad.chk tx.nm = true := by decide +kernel
theorem bn__law_bad : d__law_bad.Bn := fun _ _ _ _ _ _ us hl => match us, hl with | [_, _], _ => rfl
theorem ch__law_are_refused : d__law_are_refused.chk tx.nm = true := by decide +kernel
theorem bn__law_are_refused : d__law_are_refused.Bn := fun _ _ _ _ _ _ us hl => match us, hl with | [_], _ => rfl
theorem ch_law_v3 : d_law_v3.chk tx.nm = true := by decide +kernel
theorem bn_law_v3 : d_law_v3.Bn := fun _ _ _ _ _ _ us hl => match us, hl with | [_], _ => rfl
theorem chkD : tx.chkD = true := by
  show ([(1, d_is_int), (2, d_is_within), (3, d_is_sized), (4, d_is_rising), (5, d_is_last), (6, d_are_rooted), (7, d_are_lasts), (8, d_is_bound), (9, d_are_bounds), (10, d_is_net), (11, d_check_net), (12, d_raw_ends), (13, d_raw_ours), (14, d_raw_last_of), (15, d_ends_of), (16, d_ours_of), (17, d_last_of), (18, d_raw_all_bounds), (19, d_all_bounds), (20, d_raw_horizon), (21, d_horizon), (45, d__law_draws_v3), (23, d__law_take), (24, d__law_order), (25, d__law_lasts), (26, d__law_bounds), (27, d__law_couple), (28, d__law_net), (41, d__law_flagged), (46, d__law_pairs), (47, d__law_bad), (48, d__law_are_refused), (49, d_law_v3)].all fun p : Nat × DI => p.2.chk tx.nm) = true
  simp only [List.all_cons, List.all_nil, ch_is_int, ch_is_within, ch_is_sized, ch_is_rising, ch_is_last, ch_are_rooted, ch_are_lasts, ch_is_bound, ch_are_bounds, ch_is_net, ch_check_net, ch_raw_ends, ch_raw_ours, ch_raw_last_of, ch_ends_of, ch_ours_of, ch_last_of, ch_raw_all_bounds, ch_all_bounds, ch_raw_horizon, ch_horizon, ch__law_draws_v3, ch__law_take, ch__law_order, ch__law_lasts, ch__law_bounds, ch__law_couple, ch__law_net, ch__law_flagged, ch__law_pairs, ch__law_bad, ch__law_are_refused, ch_law_v3, Bool.and_self]
theorem chk : tx.chk = true := by decide +kernel
theorem bn : ∀ p ∈ tx.ds, p.2.Bn := by
  intro p hp
  simp only [tx, List.mem_cons, List.not_mem_nil, or_false] at hp
  rcases hp with rfl | rfl | rfl | rfl | rfl | rfl | rfl | rfl | rfl | rfl | rfl | rfl | rfl | rfl | rfl | rfl | rfl | rfl | rfl | rfl | rfl | rfl | rfl | rfl | rfl | rfl | rfl | rfl | rfl | rfl | rfl | rfl | rfl
  · exact bn_is_int
  · exact bn_is_within
  · exact bn_is_sized
  · exact bn_is_rising
  · exact bn_is_last
  · exact bn_are_rooted
  · exact bn_are_lasts
  · exact bn_is_bound
  · exact bn_are_bounds
  · exact bn_is_net
  · exact bn_check_net
  · exact bn_raw_ends
  · exact bn_raw_ours
  · exact bn_raw_last_of
  · exact bn_ends_of
  · exact bn_ours_of
  · exact bn_last_of
  · exact bn_raw_all_bounds
  · exact bn_all_bounds
  · exact bn_raw_horizon
  · exact bn_horizon
  · exact bn__law_draws_v3
  · exact bn__law_take
  · exact bn__law_order
  · exact bn__law_lasts
  · exact bn__law_bounds
  · exact bn__law_couple
  · exact bn__law_net
  · exact bn__law_flagged
  · exact bn__law_pairs
  · exact bn__law_bad
  · exact bn__law_are_refused
  · exact bn_law_v3
theorem hfs : ∀ p ∈ tx.ds, tx.fs p.1 = some p.2.df := by
  intro p hp
  simp only [tx, List.mem_cons, List.not_mem_nil, or_false] at hp
  rcases hp with rfl | rfl | rfl | rfl | rfl | rfl | rfl | rfl | rfl | rfl | rfl | rfl | rfl | rfl | rfl | rfl | rfl | rfl | rfl | rfl | rfl | rfl | rfl | rfl | rfl | rfl | rfl | rfl | rfl | rfl | rfl | rfl | rfl
  · exact fs_is_int
  · exact fs_is_within
  · exact fs_is_sized
  · exact fs_is_rising
  · exact fs_is_last
  · exact fs_are_rooted
  · exact fs_are_lasts
  · exact fs_is_bound
  · exact fs_are_bounds
  · exact fs_is_net
  · exact fs_check_net
  · exact fs_raw_ends
  · exact fs_raw_ours
  · exact fs_raw_last_of
  · exact fs_ends_of
  · exact fs_ours_of
  · exact fs_last_of
  · exact fs_raw_all_bounds
  · exact fs_all_bounds
  · exact fs_raw_horizon
  · exact fs_horizon
  · exact fs__law_draws_v3
  · exact fs__law_take
  · exact fs__law_order
  · exact fs__law_lasts
  · exact fs__law_bounds
  · exact fs__law_couple
  · exact fs__law_net
  · exact fs__law_flagged
  · exact fs__law_pairs
  · exact fs__law_bad
  · exact fs__law_are_refused
  · exact fs_law_v3
def names0 : List PySem.Str := ["is_int", "is_within", "is_sized", "is_rising", "is_last", "are_rooted", "are_lasts", "is_bound", "are_bounds", "is_net", "check_net", "raw_ends", "raw_ours", "raw_last_of", "ends_of", "ours_of", "last_of", "raw_all_bounds", "all_bounds", "raw_horizon", "horizon", "_law_draws", "_law_take", "_law_order", "_law_lasts"]
def names1 : List PySem.Str := ["_law_bounds", "_law_couple", "_law_net", "_law_flagged", "_law_pairs", "_law_bad", "_law_are_refused", "MOST_EVENTS", "MOST_LASTS", "MOST_LENGTH", "MOST_BOUNDS", "MOST_WORTH", "PlanError", "NoNet", "NoEnd"]
def names : List PySem.Str := names0 ++ names1
abbrev R : PySem.W.OpenRow := PySem.W.OpenLaw.row PySem.Challenge.rw_howeverlong_k01_nets_judged
theorem run (w : World) : HandSHeadRun.RunEq R (PySem.W.view R.prog [44]) (hookX 4 tx) (obX 4 tx) 3000 names w := by
  intro os
  kernel_rfl
theorem holds {wh n : Nat} (hr : Room n callerA) (law : LawD tx wh n k_law_v3) : PySem.Challenge.rw_howeverlong_k01_nets_judged.Holds := by
  w_on; o_law
  refine HandSHeadRun.head_any (r := PySem.W.OpenLaw.row PySem.Challenge.rw_howeverlong_k01_nets_judged) (q := PySem.W.view (PySem.W.OpenLaw.row PySem.Challenge.rw_howeverlong_k01_nets_judged).prog [44]) (H := hookX 4 tx) (ob := obX 4 tx) (M := 3000) (loose := names) (d := HandSHeadRun.topDef (PySem.W.OpenLaw.row PySem.Challenge.rw_howeverlong_k01_nets_judged).prog 44) (kwd := []) (obX_eq 4 tx)
    (by kernel_rfl) (fun s => by kernel_rfl) run (by kernel_rfl) (by kernel_rfl) (by kernel_rfl) (by rfl) (by first | assumption | decide +kernel) (by decide +kernel) ⟨rfl, rfl, rfl, rfl, rfl, by decide +kernel⟩ ?hw ?hc
  case hw => w_witness2
  case hc =>
    refine L2.walk_ofE (l := PySem.Challenge.rw_howeverlong_k01_nets_judged) (n := 63) (k := n) (x := "script") (CX := L2.CX0) rfl (by decide) (by kernel_rfl) hr ?F (fun _ _ _ _ z => z)
    intro w mg fa h Y G hmg0
    obtain ⟨K, KX, c⟩ := Y
    have hmg : mg (d_law_v3).name = some (.ref fa) := by
      have e : (HandSHeadRun.topDef (PySem.W.OpenLaw.row PySem.Challenge.rw_howeverlong_k01_nets_judged).prog 44).name = (d_law_v3).name := by kernel_rfl
      rw [← e]
      exact hmg0
    obtain ⟨fd, sp, h1, h2, h3⟩ := law_end (P := (PySem.Challenge.rw_howeverlong_k01_nets_judged).prog) (w := w) chk chkD hfs bn (dl := d_law_v3) (kl := k_law_v3) (by decide +kernel) (by decide +kernel) rfl law KX G c hmg
    exact ⟨K, fd, sp, KX, h1, h2, h3⟩
end K01
open PySem PySem.W PyProof.Rows
set_option maxRecDepth 100000 in
set_option maxHeartbeats 8000000 in
theorem PySem.Challenge.cw_howeverlong_k01_nets_judged_holds : PySem.Challenge.rw_howeverlong_k01_nets_judged.Holds := by
  exact K01.holds (wh := G.WH) (n := 10) ⟨rfl, by decide, by decide⟩ fun ns _ => G.law_k01
