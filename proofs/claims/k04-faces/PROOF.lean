import PyProof.Rows.All
import Wide.All
import OpenK.AllK
import Wide.FinOn
import HandS.ForMost
import HandS.ForExc
import HandS.TupLe
import PyProof.P3Eq
import HandS.TupLen
import HandS.TupAny
import HandS.TupMul
import HandS.Deep
import HandS.IsInst
import HandS.Conv
import HandS.SortInts
import HandS.NoneIn
import HandS.More
import HandS.CallSlots
import HandS.Flow
import HandS.Walk
import HandS.Comp
import HandS.Iter
import KE.GoesMore
import KE.GoesEnum
import HandS.Zip
import HandS.DictComp
import HandS.Style
import HandS.Lambda
import HandS.WordsExc
import HandS.Defaults
import HandS.ExcIs
import HandS.ExcField
import HandS.TryMany
import HandS.HeadHook4
import HandS.HeadWalk
import HandS.Head0
import HandS.Head1
import HandS.Head2
import PySem.Challenge.RW_squarehouse_k04_whole_faces_of_squares
set_option Elab.async false
set_option linter.all false
set_option maxRecDepth 100000
/-! VL1: the value layer's small language: trees, what they mean on plain data, the Python trees they stand for. -/
namespace VL
open PySem

abbrev Dt := PyData
abbrev Ev := List Dt

inductive R (a : Type) where
  | ok (x : a)
  | exc (c : Str) (xs : List Dt)
  | err

def R.bind {a b : Type} (r : R a) (f : a → R b) : R b :=
  match r with
  | .ok x => f x
  | .exc c xs => .exc c xs
  | .err => .err

abbrev M (a : Type) := Ev → R (a × Ev)
def mp {a : Type} (x : a) : M a := fun e => .ok (x, e)
def mb {a b : Type} (m : M a) (f : a → M b) : M b := fun e =>
  match m e with
  | .ok (x, e') => f x e'
  | .exc c xs => .exc c xs
  | .err => .err
/-- a reckoning that leaves the slots -/
def ml {a : Type} (r : R a) : M a := fun e =>
  match r with
  | .ok x => .ok (x, e)
  | .exc c xs => .exc c xs
  | .err => .err

/-! ### what data are owned -/
inductive Ty where
  | sh
  | ls (t : Ty)
  | ks
  deriving DecidableEq
inductive Sl where
  | no
  | own (t : Ty)
  | ref (t : Ty)
  | bor (t : Ty)
  deriving DecidableEq
abbrev Cn := List Sl

structure Fn where
  nm : Str
  ps : List Sl
  rt : Ty
  lev : Nat
  sem : List Dt → R (Dt × List Dt)

/-! ### operations on data -/
/-- what a reckoning gives, or the layer has no word for it -/
def mo {a : Type} (r : Option a) : M a := fun e =>
  match r with
  | some x => .ok (x, e)
  | none => .err
def fitsMul (i j : Int) : Bool := (decide (-(2 ^ 64) < i) && decide (i < 2 ^ 64)) || (decide (-(2 ^ 64) < j) && decide (j < 2 ^ 64))
def seqCat (mk : List Dt → Dt) (xs ys : List Dt) : Option Dt := if xs.length + ys.length ≤ sizeLine then some (mk (xs ++ ys)) else none
def seqRep (xs : List Dt) (k : Int) : Option Dt :=
  if -(2 ^ 63) ≤ k ∧ k < 2 ^ 63 ∧ xs.length * k.toNat ≤ sizeLine then some (.list (List.replicate k.toNat xs).flatten) else none
def opB : Operator → Dt → Dt → Option Dt
  | .Add, .int i, .int j => some (.int (i + j))
  | .Add, .list xs, .list ys => seqCat .list xs ys
  | .Add, .tuple xs, .tuple ys => seqCat .tuple xs ys
  | .Sub, .int i, .int j => some (.int (i - j))
  | .Mult, .int i, .int j => if fitsMul i j = true then some (.int (i * j)) else none
  | .Mult, .list xs, .int k => seqRep xs k
  | .Mult, .tuple xs, .int k => if xs ≠ [] ∧ 2 ≤ k ∧ k ≤ 1000 ∧ xs.length ≤ 1000 then some (.tuple (List.replicate k.toNat xs).flatten) else none
  | .FloorDiv, .int i, .int j => if j ≠ 0 ∧ j.natAbs < 1073741824 then some (.int (i.fdiv j)) else none
  | .Mod, .int i, .int j => if j ≠ 0 then some (.int (i.fmod j)) else none
  | .Pow, .int i, .int j => if 0 ≤ j ∧ j ≤ 1000000 ∧ i.natAbs < 2 ^ 64 then some (.int (i ^ j.toNat)) else none
  | _, _, _ => none
/-- whether a list comes is known ahead -/
def chkT : Ty → Dt → Option Dt
  | .sh, .list _ => none
  | .sh, d => some d
  | .ls .sh, .list xs => some (.list xs)
  | _, _ => none
def eqD (a b : Dt) : Option Bool := if SeqAt.shaped a = true ∧ SeqAt.shaped b = true then some (PyData.eqv a b) else none
def inD (x : Dt) (ys : List Dt) : Option Bool := if SeqAt.shaped x = true ∧ SeqAt.shaped (.list ys) = true then some (ys.any fun z => PyData.eqv z x) else none
def isD (a b : Dt) : Option Bool :=
  match b with
  | .none => some (match a with | .none => true | _ => false)
  | .bool b => some (match a with | .bool c => c == b | _ => false)
  | _ => none
/-- the order of ints, of lengths -/
def ordI : CmpOp → Int → Int → Bool
  | .Lt, i, j => decide (i < j)
  | .LtE, i, j => decide (i ≤ j)
  | .Gt, i, j => decide (j < i)
  | .GtE, i, j => decide (j ≤ i)
  | _, _, _ => false
def ordZ : CmpOp → Nat → Nat → Bool
  | .Lt, i, j => decide (i < j)
  | .LtE, i, j => decide (i ≤ j)
  | .Gt, i, j => decide (j < i)
  | .GtE, i, j => decide (j ≤ i)
  | _, _, _ => false
mutual
/-- the order of ints and of tuples -/
def ordV (o : CmpOp) : Dt → Dt → Option Bool
  | .int i, .int j => some (ordI o i j)
  | .tuple xs, .tuple ys => ordVs o xs ys
  | _, _ => none
def ordVs (o : CmpOp) : List Dt → List Dt → Option Bool
  | x :: xs, y :: ys => (ordV o x y).bind fun b => (ordVs o xs ys).map fun r => if PyData.eqv x y = true then r else b
  | [], ys => some (ordZ o 0 ys.length)
  | x :: xs, [] => some (ordZ o (xs.length + 1) 0)
end
def ordD (o : CmpOp) (a b : Dt) : Option Bool := if SeqAt.shaped a = true ∧ SeqAt.shaped b = true then ordV o a b else none
def opC : CmpOp → Dt → Dt → Option Bool
  | .Eq, a, b => eqD a b
  | .NotEq, a, b => (eqD a b).map (!·)
  | .Lt, a, b => ordD .Lt a b
  | .LtE, a, b => ordD .LtE a b
  | .Gt, a, b => ordD .Gt a b
  | .GtE, a, b => ordD .GtE a b
  | .Is, a, b => isD a b
  | .IsNot, a, b => (isD a b).map (!·)
  | .In, a, .list ys => inD a ys
  | .In, a, .tuple ys => inD a ys
  | .NotIn, a, .list ys => (inD a ys).map (!·)
  | .NotIn, a, .tuple ys => (inD a ys).map (!·)
  | _, _, _ => none
/-- the truth of a value -/
def truD : Dt → Option Bool
  | .bool b => some b
  | .none => some false
  | .int i => some (i != 0)
  | .list xs => some (!xs.isEmpty)
  | .tuple xs => some (!xs.isEmpty)
  | _ => none
/-- an item by its place -/
def seqIx (xs : List Dt) (i : Int) : Option Dt := L2.atI xs i
/-- what may be a key -/
def keyD : Dt → Bool
  | .int _ => true
  | .str _ => true
  | _ => false
/-- .. made of such -/
def keyT : Dt → Bool
  | .tuple ds => ds.all keyD
  | _ => false
/-- all keys of one kind -/
def kindB (kvs : List (Dt × Dt)) : Bool := kvs.all (fun q => keyD q.1) || kvs.all (fun q => keyT q.1)
/-- a dict's entry -/
def getD_ (kvs : List (Dt × Dt)) (k : Dt) : Option Dt := (kvs.find? fun q => PyData.eqv q.1 k).map (·.2)
def lookD (kvs : List (Dt × Dt)) (k : Dt) : Option Dt := if (keyD k || keyT k) = true ∧ (kvs.all fun q => keyD q.1 == keyD k) = true then getD_ kvs k else none
def subD (a i : Dt) : Option Dt :=
  match a, i with
  | .list xs, .int i => seqIx xs i
  | .tuple xs, .int i => seqIx xs i
  | .dict kvs, k => lookD kvs k
  | _, _ => none
def cutD (xs : List Dt) (lo hi : Option Int) : List Dt := (xs.drop (HT.sIx xs.length 0 lo)).take (HT.sIx xs.length xs.length hi - HT.sIx xs.length 0 lo)
def slcD (a : Dt) (lo hi : Option Int) : Option Dt :=
  match a with
  | .list xs => some (.list (cutD xs lo hi))
  | .tuple xs => some (.tuple (cutD xs lo hi))
  | _ => none
def intO : Dt → Option (Option Int)
  | .int i => some (some i)
  | _ => none
def negD : Dt → Option Dt
  | .int i => some (.int (-i))
  | _ => none

/-- classes that isinstance asks of -/
inductive Ic where
  | tInt | tBool | tTuple | tList | tStr | tDict
  deriving DecidableEq
def Ic.name : Ic → String
  | .tInt => "int" | .tBool => "bool" | .tTuple => "tuple" | .tList => "list" | .tStr => "str" | .tDict => "dict"
def isiD : Dt → Ic → Bool
  | .int _, .tInt => true
  | .bool _, .tInt => true
  | .bool _, .tBool => true
  | .tuple _, .tTuple => true
  | .list _, .tList => true
  | .str _, .tStr => true
  | .dict _, .tDict => true
  | _, _ => false

/-- builtins of one argument -/
inductive B1 where
  | len | all | any | sorted | list | tuple | abs | int | sum | min | max
  deriving DecidableEq
def B1.name : B1 → String
  | .len => "len" | .all => "all" | .any => "any" | .sorted => "sorted" | .list => "list" | .tuple => "tuple" | .abs => "abs" | .int => "int" | .sum => "sum" | .min => "min" | .max => "max"
def B1.ty : B1 → Ty
  | .sorted => .ls .sh
  | .list => .ls .sh
  | _ => .sh
def boolsOf : List Dt → Option (List Bool)
  | [] => some []
  | .bool b :: r => (boolsOf r).map (b :: ·)
  | _ :: _ => none
def intsOf : List Dt → Option (List Int)
  | [] => some []
  | .int i :: r => (intsOf r).map (i :: ·)
  | _ :: _ => none
def insInt (x : Int) : List Int → List Int
  | [] => [x]
  | y :: r => if x ≤ y then x :: y :: r else y :: insInt x r
def sortInts : List Int → List Int
  | [] => []
  | x :: r => insInt x (sortInts r)
def seqOf : Dt → Option (List Dt)
  | .list xs => some xs
  | .tuple xs => some xs
  | _ => none
def enumD (d : Dt) : Option (List Dt) := (seqOf d).map fun xs => xs.mapIdx fun i x => PyData.tuple [.int (i : Nat), x]
def zipD : Dt → Dt → Option (List Dt)
  | .list xs, .list ys => some (List.zipWith (fun x y => PyData.tuple [x, y]) xs ys)
  | .tuple xs, .tuple ys => some (List.zipWith (fun x y => PyData.tuple [x, y]) xs ys)
  | _, _ => none
def tupOf : Dt → Option (List Dt)
  | .tuple xs => some xs
  | _ => none
/-- the best item by order (the first of equals) -/
def bestD (o : CmpOp) : Dt → List Dt → Option Dt
  | m, [] => some m
  | m, x :: r => (ordD o x m).bind fun b => bestD o (if b = true then x else m) r
def apB1 : B1 → Dt → Option Dt
  | .len, .list xs => some (.int xs.length)
  | .len, .tuple xs => some (.int xs.length)
  | .len, .dict kvs => some (.int kvs.length)
  | .all, .list xs => (boolsOf xs).map fun bs => .bool (bs.all id)
  | .any, .list xs => (boolsOf xs).map fun bs => .bool (bs.any id)
  | .sorted, .list xs => (intsOf xs).map fun ns => .list ((sortInts ns).map .int)
  | .sorted, .tuple xs => (intsOf xs).map fun ns => .list ((sortInts ns).map .int)
  | .list, .list xs => some (.list xs)
  | .list, .tuple xs => some (.list xs)
  | .tuple, .list xs => some (.tuple xs)
  | .tuple, .tuple xs => some (.tuple xs)
  | .abs, .int i => some (.int (if i < 0 then -i else i))
  | .int, .int i => some (.int i)
  | .int, .bool b => some (.int (if b then 1 else 0))
  | .sum, .list xs => (intsOf xs).map fun ns => .int ns.sum
  | .min, .list (x :: xs) => if PyData.canLayAll0 (x :: xs) = true then bestD .Lt x xs else none
  | .min, .tuple (x :: xs) => if PyData.canLayAll0 (x :: xs) = true then bestD .Lt x xs else none
  | .max, .list (x :: xs) => if PyData.canLayAll0 (x :: xs) = true then bestD .Gt x xs else none
  | .max, .tuple (x :: xs) => if PyData.canLayAll0 (x :: xs) = true then bestD .Gt x xs else none
  | _, _ => none
def rangeD (lo : Int) (n : Nat) : List Dt := (List.range n).map fun (i : Nat) => PyData.int (lo + (i : Int))
def inR (i : Int) : Bool := decide (-(2 ^ 62) ≤ i) && decide (i < 2 ^ 62)
def rangeOf : List Dt → Option (List Dt)
  | [.int n] => if inR n = true ∧ n.toNat ≤ 16777216 then some (rangeD 0 n.toNat) else none
  | [.int a, .int b] => if inR a = true ∧ inR b = true ∧ (b - a).toNat ≤ 16777216 then some (rangeD a (b - a).toNat) else none
  | _ => none
/-- a dict's entry stored -/
def putD (k v : Dt) (kvs : List (Dt × Dt)) : List (Dt × Dt) :=
  if (kvs.any fun q => PyData.eqv q.1 k) = true then kvs.map (fun q => if PyData.eqv q.1 k = true then (q.1, v) else q) else kvs ++ [(k, v)]
/-- methods that change their list -/
inductive Mth where
  | append | extend | pop
  deriving DecidableEq
def Mth.name : Mth → String
  | .append => "append" | .extend => "extend" | .pop => "pop"
def apMth : Mth → Dt → List Dt → Option (Dt × Dt)
  | .append, .list xs, [d] => if xs.length < sizeLine then some (.none, .list (xs ++ [d])) else none
  | .extend, .list xs, [.list ys] => if xs.length + ys.length ≤ sizeLine then some (.none, .list (xs ++ ys)) else none
  | .pop, .list xs, [] => (xs[xs.length - 1]?).map fun d => (d, .list xs.dropLast)
  | .pop, .list xs, [.int i] => if inR i = true then (L2.ixN xs.length i).bind fun k => (xs[k]?).map fun d => (d, .list (xs.eraseIdx k)) else none
  | _, _, _ => none
/-- methods that only look -/
inductive Mlk where
  | index | count
  deriving DecidableEq
def Mlk.name : Mlk → String
  | .index => "index" | .count => "count"
def apMlk : Mlk → Dt → List Dt → Option Dt
  | .index, .list xs, [d] =>
    if SeqAt.shaped d = true ∧ SeqAt.shaped (.list xs) = true then (xs.findIdx? fun z => PyData.eqv z d).map fun j => .int (j : Nat) else none
  | .count, .list xs, [d] => if SeqAt.shaped d = true ∧ SeqAt.shaped (.list xs) = true then some (.int (xs.countP fun z => PyData.eqv z d)) else none
  | _, _, _ => none
/-- data at a path -/
def getAt : List Dt → Dt → Option Dt
  | [], d => some d
  | .int i :: r, .list xs => (L2.ixN xs.length i).bind fun k => (xs[k]?).bind fun d => getAt r d
  | _, _ => none
/-- data changed at a path -/
def updAt {a : Type} (f : Dt → Option (a × Dt)) : List Dt → Dt → Option (a × Dt)
  | [], d => f d
  | .int i :: r, .list xs => (L2.ixN xs.length i).bind fun k => (xs[k]?).bind fun d => (updAt f r d).map fun q => (q.1, .list (xs.set k q.2))
  | _, _ => none

/-! ### the trees -/
mutual
inductive E where
  | var (x : Str) (i : Nat) (p : Pos)
  | gl (x : Str) (d : Dt) (p : Pos)
  | non (p : Pos)
  | bl (b : Bool) (p : Pos)
  | int (n : Int) (p : Pos)
  | str (s : Str) (p : Pos)
  | bop (t : Ty) (o : Operator) (a b : E) (p : Pos)
  | neg (a : E) (p : Pos)
  | not (a : E) (p : Pos)
  | and (es : Es) (p : Pos)
  | or (es : Es) (p : Pos)
  | cmp (o : CmpOp) (a b : E) (p : Pos)
  | cmp2 (o o' : CmpOp) (a b c : E) (p : Pos)
  | ife (c a b : E) (p : Pos)
  | tup (es : Es) (p : Pos)
  | lst (t : Ty) (es : Es) (p : Pos)
  | dct0 (p : Pos)
  | sub (a i : E) (p : Pos)
  | slc (t : Ty) (a : E) (lo hi : Oe) (q p : Pos)
  | call (j : Nat) (x : Str) (es : Es) (q p : Pos)
  | b1 (f : B1) (a : E) (q p : Pos)
  | b1r (f : B1) (es : Es) (q q2 q3 p : Pos)
  | isi (a : E) (c : Ic) (q q2 p : Pos)
  | mut (m : Mth) (b : Pt) (es : Es) (q p : Pos)
  | lk (m : Mlk) (a : E) (es : Es) (q p : Pos)
  | lc (tg : Tg) (it : It) (c : Oe) (a : E) (own : List (Str × Nat)) (sc : Scope) (p : Pos)
  | dc (tg : Tg) (it : It) (k v : E) (own : List (Str × Nat)) (sc : Scope) (p : Pos)
  | wrd (j : Nat) (x : Str) (a : E) (sc : Scope) (lp q p : Pos)
  | frz (a : E)
inductive Es where
  | nil
  | cons (a : E) (r : Es)
inductive Oe where
  | none
  | some (a : E)
inductive It where
  | of (a : E)
  | rng (es : Es) (q p : Pos)
  | enu (a : E) (q p : Pos)
  | zip (a b : E) (q p : Pos)
inductive Tg where
  | nm (x : Str) (i : Nat) (p : Pos)
  | tp (ts : Tgs) (p : Pos)
  | at (b : Pt)
inductive Tgs where
  | nil
  | cons (a : Tg) (r : Tgs)
inductive Pt where
  | nm (x : Str) (i : Nat) (p : Pos)
  | ix (b : Pt) (i : E) (p : Pos)
end
mutual
inductive S where
  | set (x : Str) (i : Nat) (e : E) (q p : Pos)
  | setT (tg : Tg) (e : E) (p : Pos)
  | setP (tg : Tgs) (es : Es) (q q2 p : Pos)
  | aug (x : Str) (i : Nat) (o : Operator) (e : E) (q p : Pos)
  | ret (e : E) (p : Pos)
  | exp (e : E) (p : Pos)
  | ife (c : E) (a b : Ss) (p : Pos)
  | whl (c : E) (b : Ss) (p : Pos)
  | for (tg : Tg) (it : It) (b : Ss) (p : Pos)
  | rai (c : Str) (q q2 p : Pos)
  | brk (p : Pos)
  | cnt (p : Pos)
  | pas (p : Pos)
  | frz (i : Nat)
  | drop (i : Nat)
inductive Ss where
  | nil
  | cons (a : S) (r : Ss)
end

def Es.isNil : Es → Bool
  | .nil => true
  | .cons _ _ => false

/-! ### what they mean -/
/-- the way a statement ends -/
inductive Fl where
  | nx | br | ct
  | rt (d : Dt)

def outSlots : List Sl → Es → Nat → List (Nat × Nat)
  | .ref _ :: ps, .cons (.var _ i _) r, k => (i, k) :: outSlots ps r (k + 1)
  | _ :: ps, .cons _ r, k => outSlots ps r (k + 1)
  | _, _, _ => []
def refIx : List Sl → E → Option Nat
  | .ref _ :: _, a => (match a with
    | .var _ i _ => some i
    | _ => none)
  | _, _ => none
def setOuts (outs : List Dt) : List (Nat × Nat) → Ev → Ev
  | [], e => e
  | (i, k) :: r, e => setOuts outs r (e.set i (outs.getD k .none))
/-- the comprehension's own names get back what they had -/
def giveBack (e0 : Ev) : List Nat → Ev → Ev
  | [], e => e
  | i :: r, e => giveBack e0 r (e.set i (e0.getD i .none))
def lcLoop (f : Dt → M (Option Dt)) : List Dt → M (List Dt)
  | [], e => .ok ([], e)
  | x :: xs, e =>
    match f x e with
    | .ok (o, e1) =>
      (match lcLoop f xs e1 with
       | .ok (r, e2) => .ok (o.toList ++ r, e2)
       | .exc c ys => .exc c ys
       | .err => .err)
    | .exc c ys => .exc c ys
    | .err => .err
def dcLoop (f : Dt → M (Dt × Dt)) : List Dt → List (Dt × Dt) → M (List (Dt × Dt))
  | [], kvs, e => .ok (kvs, e)
  | x :: xs, kvs, e =>
    match f x e with
    | .ok ((k, v), e1) => dcLoop f xs (putD k v kvs) e1
    | .exc c ys => .exc c ys
    | .err => .err
/-- no error leaves a comprehension -/
def noExc {a : Type} (r : R a) : R a :=
  match r with
  | .ok x => .ok x
  | _ => .err
def forLoop (f : Dt → M Fl) : List Dt → M Fl
  | [], e => .ok (.nx, e)
  | x :: xs, e =>
    match f x e with
    | .ok (.nx, e1) => forLoop f xs e1
    | .ok (.ct, e1) => forLoop f xs e1
    | .ok (.br, e1) => .ok (.nx, e1)
    | .ok (.rt d, e1) => .ok (.rt d, e1)
    | .exc c ys => .exc c ys
    | .err => .err
def whlLoop (c : M Bool) (f : M Fl) : Nat → M Fl
  | 0, _ => .err
  | n + 1, e =>
    match c e with
    | .ok (true, e1) =>
      (match f e1 with
       | .ok (.nx, e2) => whlLoop c f n e2
       | .ok (.ct, e2) => whlLoop c f n e2
       | .ok (.br, e2) => .ok (.nx, e2)
       | .ok (.rt d, e2) => .ok (.rt d, e2)
       | .exc k ys => .exc k ys
       | .err => .err)
    | .ok (false, e1) => .ok (.nx, e1)
    | .exc k ys => .exc k ys
    | .err => .err
/-- what a word gives -/
def wret (r : R (Dt × List Dt)) : M Dt := fun e => match r with
  | .ok (d, _) => .ok (d, e)
  | _ => .err
def whlFuel : Nat := 1000000000

section
variable (T : List Fn)
mutual
def ev : E → M Dt
  | .var _ i _ => fun e => .ok (e.getD i .none, e)
  | .gl _ d _ => mp d
  | .non _ => mp .none
  | .bl b _ => mp (.bool b)
  | .int n _ => mp (.int n)
  | .str s _ => mp (.str s)
  | .bop t o a b _ => mb (ev a) fun x => mb (ev b) fun y => mo ((opB o x y).bind (chkT t))
  | .neg a _ => mb (ev a) fun x => mo (negD x)
  | .not a _ => mb (ev a) fun x => mo ((truD x).map fun b => .bool (!b))
  | .and es _ => evAnd es
  | .or es _ => evOr es
  | .cmp o a b _ => mb (ev a) fun x => mb (ev b) fun y => mo ((opC o x y).map .bool)
  | .cmp2 o o' a b c _ => mb (ev a) fun x => mb (ev b) fun y => mb (mo (opC o x y)) fun k =>
      match k with
      | true => mb (ev c) fun z => mo ((opC o' y z).map .bool)
      | false => mp (.bool false)
  | .ife c a b _ => mb (tst c) fun k => match k with | true => ev a | false => ev b
  | .tup es _ => mb (evs es) fun xs => mo (if xs.length ≤ sizeLine then some (.tuple xs) else none)
  | .lst _ es _ => mb (evs es) fun xs => mo (if xs.length ≤ sizeLine then some (.list xs) else none)
  | .dct0 _ => mp (.dict [])
  | .sub a i _ => mb (ev a) fun x => mb (ev i) fun y => mo (subD x y)
  | .slc t a lo hi _ _ => mb (ev a) fun x => mb (evo lo) fun l => mb (evo hi) fun h => mo ((slcD x l h).bind (chkT t))
  | .call j _ es _ _ =>
      match T[j]? with
      | some f => mb (evsA es f.ps) fun xs e =>
        (match f.sem xs with
         | .ok (d, outs) => .ok (d, setOuts outs (outSlots f.ps es 0) e)
         | .exc c ys => .exc c ys
         | .err => .err)
      | none => fun _ => .err
  | .b1 f a _ _ => mb (ev a) fun x => mo (apB1 f x)
  | .b1r f es _ _ _ _ => mb (evs es) fun xs => mo ((rangeOf xs).bind fun ds => apB1 f (.list ds))
  | .isi a c _ _ _ => mb (ev a) fun x => mp (.bool (isiD x c))
  | .mut m b es _ _ => mb (pth b) fun ks => mb (evs es) fun xs => fun e =>
      match updAt (fun d => apMth m d xs) ks.2 (e.getD ks.1 .none) with
      | some (r, d) => .ok (r, e.set ks.1 d)
      | none => .err
  | .lk m a es _ _ => mb (ev a) fun x => mb (evs es) fun xs => mo (apMlk m x xs)
  | .lc tg it c a own _ _ => mb (itr it) fun xs => fun e => noExc
      (match (if xs.length ≤ sizeLine then lcLoop (fun x => mb (bnd tg x) fun _ => mb (cnd c) fun k => match k with | true => mb (ev a) fun y => mp (some y) | false => mp none) xs e else .err) with
       | .ok (ys, e') => .ok (.list ys, giveBack e (own.map (·.2)) e')
       | .exc c ys => .exc c ys
       | .err => .err)
  | .dc tg it k v own _ _ => mb (itr it) fun xs => fun e => noExc
      (match (if xs.length ≤ sizeLine then dcLoop (fun x => mb (bnd tg x) fun _ => mb (ev k) fun y => mb (ev v) fun z => mo (if (keyD y || keyT y) = true then some (y, z) else none)) xs [] e else .err) with
       | .ok (kvs, e') => if kindB kvs = true then .ok (.dict kvs, giveBack e (own.map (·.2)) e') else .err
       | .exc c ys => .exc c ys
       | .err => .err)
  | .wrd j _ a _ _ _ _ => fun e =>
      match T[j]? with
      | some f => (match ev a e with
        | .ok (d, _) => wret (f.sem [.tuple [.none, d]]) e
        | .exc y ys => wret (f.sem [.tuple (.str y :: ys)]) e
        | .err => .err)
      | none => .err
  | .frz a => ev a
def evs : Es → M (List Dt)
  | .nil => mp []
  | .cons a r => mb (ev a) fun x => mb (evs r) fun xs => mp (x :: xs)
/-- arguments: what is changed in place is told as it is behind them all -/
def evsA : Es → List Sl → M (List Dt)
  | .nil, _ => mp []
  | .cons a r, ps => match refIx ps a with
    | some i => mb (evsA r ps.tail) fun xs => fun e => .ok (e.getD i .none :: xs, e)
    | none => mb (ev a) fun x => mb (evsA r ps.tail) fun xs => mp (x :: xs)
def evAnd : Es → M Dt
  | .nil => fun _ => .err
  | .cons a r => if r.isNil then ev a else mb (ev a) fun x => match x with | .bool true => evAnd r | .bool false => mp (.bool false) | _ => fun _ => .err
def evOr : Es → M Dt
  | .nil => fun _ => .err
  | .cons a r => if r.isNil then ev a else mb (ev a) fun x => match x with | .bool false => evOr r | .bool true => mp (.bool true) | _ => fun _ => .err
def evo : Oe → M (Option Int)
  | .none => mp none
  | .some a => mb (ev a) fun x => mo (intO x)
/-- a test -/
def tst : E → M Bool
  | .and es _ => tsAnd es
  | .or es _ => tsOr es
  | .not a _ => mb (tst a) fun k => mp (!k)
  | .cmp o a b _ => mb (ev a) fun x => mb (ev b) fun y => mo (opC o x y)
  | .cmp2 o o' a b c _ => mb (ev a) fun x => mb (ev b) fun y => mb (mo (opC o x y)) fun k =>
      match k with
      | true => mb (ev c) fun z => mo (opC o' y z)
      | false => mp false
  | .var _ i _ => fun e => mo (truD (e.getD i .none)) e
  | .isi a c _ _ _ => mb (ev a) fun x => mp (isiD x c)
  | .call j _ es _ _ => mb (match T[j]? with
      | some f => mb (evsA es f.ps) fun xs e =>
        (match f.sem xs with
         | .ok (d, outs) => .ok (d, setOuts outs (outSlots f.ps es 0) e)
         | .exc c ys => .exc c ys
         | .err => .err)
      | none => fun _ => .err) fun x => mo (truD x)
  | .b1 f a _ _ => mb (ev a) fun x => mo ((apB1 f x).bind truD)
  | _ => fun _ => .err
def tsAnd : Es → M Bool
  | .nil => fun _ => .err
  | .cons a r => if r.isNil then tst a else mb (tst a) fun k => match k with | true => tsAnd r | false => mp false
def tsOr : Es → M Bool
  | .nil => fun _ => .err
  | .cons a r => if r.isNil then tst a else mb (tst a) fun k => match k with | true => mp true | false => tsOr r
def cnd : Oe → M Bool
  | .none => mp true
  | .some c => tst c
/-- what a loop goes over -/
def itr : It → M (List Dt)
  | .of a => mb (ev a) fun x => mo (seqOf x)
  | .rng es _ _ => mb (evs es) fun xs => mo (rangeOf xs)
  | .enu a _ _ => mb (ev a) fun x => mo (enumD x)
  | .zip a b _ _ => mb (ev a) fun x => mb (ev b) fun y => mo (zipD x y)
/-- a value stored -/
def bnd : Tg → Dt → M Unit
  | .nm _ i _, d => fun e => .ok ((), e.set i d)
  | .tp ts _, d => mb (mo (tupOf d)) fun xs => bnds ts xs
  | .at b, d => mb (pth b) fun ks => fun e =>
      match ks.2 with
      | [] => .err
      | _ :: _ =>
        (match updAt (fun _ => some ((), d)) ks.2 (e.getD ks.1 .none) with
         | some (_, d') => .ok ((), e.set ks.1 d')
         | none => .err)
def bnds : Tgs → List Dt → M Unit
  | .nil, [] => mp ()
  | .cons t r, x :: xs => mb (bnd t x) fun _ => bnds r xs
  | _, _ => fun _ => .err
/-- a slot and the way into it -/
def pth : Pt → M (Nat × List Dt)
  | .nm _ i _ => mp (i, [])
  | .ix b i _ => mb (pth b) fun ks => mb (ev i) fun k => fun e => match getAt (ks.2 ++ [k]) (e.getD ks.1 .none) with
      | some _ => .ok ((ks.1, ks.2 ++ [k]), e)
      | none => .err
end
mutual
def ex : S → M Fl
  | .set _ i a _ _ => mb (ev T a) fun x => fun e => .ok (.nx, e.set i x)
  | .setT tg a _ => mb (ev T a) fun x => mb (bnd T tg x) fun _ => mp .nx
  | .setP tg es _ _ _ => mb (evs T es) fun xs => mb (bnds T tg xs) fun _ => mp .nx
  | .aug _ i o a _ _ => fun e => mb (ev T a) (fun y => mb (mo (opB o (e.getD i .none) y)) fun z => fun e => .ok (.nx, e.set i z)) e
  | .ret a _ => mb (ev T a) fun x => mp (.rt x)
  | .exp a _ => mb (ev T a) fun _ => mp .nx
  | .ife c a b _ => mb (tst T c) fun k => match k with | true => exs a | false => exs b
  | .whl c b _ => fun e => whlLoop (tst T c) (exs b) whlFuel e
  | .for tg it b _ => mb (itr T it) fun xs => forLoop (fun x => mb (bnd T tg x) fun _ => exs b) xs
  | .rai c _ _ _ => fun _ => .exc c []
  | .brk _ => mp .br
  | .cnt _ => mp .ct
  | .pas _ => mp .nx
  | .frz _ => mp .nx
  | .drop _ => mp .nx
def exs : Ss → M Fl
  | .nil => mp .nx
  | .cons a r => mb (ex a) fun f => match f with | .nx => exs r | g => mp g
end
/-- a def: n slots, m of them parameters -/
def run (n m : Nat) (b : Ss) (ds : List Dt) : R (Dt × List Dt) :=
  if ds.length = m then
    (match exs T b (ds ++ List.replicate (n - m) .none) with
     | .ok (.rt d, e) => .ok (d, e.take m)
     | .ok (.nx, e) => .ok (.none, e.take m)
     | .ok _ => .err
     | .exc c xs => .exc c xs
     | .err => .err)
  else .err
end

/-! ### the Python trees -/
abbrev noArgs : Arguments := { posonlyargs := [], args := [], vararg := none, kwonlyargs := [], kw_defaults := [], kwarg := none, defaults := [] }
abbrev nameE (x : Str) (p : Pos) : Expr := .Name x p
mutual
def py : E → Expr
  | .var x _ p => .Name x p
  | .gl x _ p => .Name x p
  | .non p => .Constant .none 0 p
  | .bl b p => .Constant (.bool b) 0 p
  | .int n p => .Constant (.int n) 0 p
  | .str s p => .Constant (.str s) 0 p
  | .bop _ o a b p => .BinOp (py a) o (py b) p
  | .neg a p => .UnaryOp .USub (py a) p
  | .not a p => .UnaryOp .Not (py a) p
  | .and es p => .BoolOp .And (pys es) p
  | .or es p => .BoolOp .Or (pys es) p
  | .cmp o a b p => .Compare (py a) [o] [py b] p
  | .cmp2 o o' a b c p => .Compare (py a) [o, o'] [py b, py c] p
  | .ife c a b p => .IfExp (py c) (py a) (py b) p
  | .tup es p => .Tuple (pys es) 0 p
  | .lst _ es p => .List (pys es) p
  | .dct0 p => .Dict [] [] p
  | .sub a i p => .Subscript (py a) (py i) p
  | .slc _ a lo hi q p => .Subscript (py a) (.Slice (pyo lo) (pyo hi) none q) p
  | .call _ x es q p => .Call (.Name x q) (pys es) [] p
  | .b1 f a q p => .Call (.Name (Str.ofString f.name) q) [py a] [] p
  | .b1r f es q q2 q3 p => .Call (.Name (Str.ofString f.name) q) [.Call (.Name (Str.ofString "range") q2) (pys es) [] q3] [] p
  | .isi a c q q2 p => .Call (.Name (Str.ofString "isinstance") q) [py a, .Name (Str.ofString c.name) q2] [] p
  | .mut m b es q p => .Call (.Attribute (pyp b) (Str.ofString m.name) q) (pys es) [] p
  | .lk m a es q p => .Call (.Attribute (py a) (Str.ofString m.name) q) (pys es) [] p
  | .lc tg it c a _ sc p => .ListComp (py a) [⟨pyt tg, pyi it, pyc c, 0⟩] sc p
  | .dc tg it k v _ sc p => .DictComp (py k) (py v) [⟨pyt tg, pyi it, [], 0⟩] sc p
  | .wrd _ x a sc lp q p => .Call (.Name x q) [.Lambda noArgs (py a) sc lp] [] p
  | .frz a => py a
def pys : Es → List Expr
  | .nil => []
  | .cons a r => py a :: pys r
def pyo : Oe → Option Expr
  | .none => none
  | .some a => some (py a)
def pyc : Oe → List Expr
  | .none => []
  | .some a => [py a]
def pyi : It → Expr
  | .of a => py a
  | .rng es q p => .Call (.Name (Str.ofString "range") q) (pys es) [] p
  | .enu a q p => .Call (.Name (Str.ofString "enumerate") q) [py a] [] p
  | .zip a b q p => .Call (.Name (Str.ofString "zip") q) [py a, py b] [] p
def pyt : Tg → Expr
  | .nm x _ p => .Name x p
  | .tp ts p => .Tuple (pyts ts) 0 p
  | .at b => pyp b
def pyts : Tgs → List Expr
  | .nil => []
  | .cons a r => pyt a :: pyts r
def pyp : Pt → Expr
  | .nm x _ p => .Name x p
  | .ix b i p => .Subscript (pyp b) (py i) p
end
mutual
def pyS : S → List Stmt
  | .set x _ a q p => [.Assign [.Name x q] (py a) p]
  | .setT tg a p => [.Assign [pyt tg] (py a) p]
  | .setP tg es q q2 p => [.Assign [.Tuple (pyts tg) 0 q] (.Tuple (pys es) 0 q2) p]
  | .aug x _ o a q p => [.AugAssign (.Name x q) o (py a) p]
  | .ret a p => [.Return (some (py a)) p]
  | .exp a p => [.Expr (py a) p]
  | .ife c a b p => [.If (py c) (pySs a) (pySs b) p]
  | .whl c b p => [.While (py c) (pySs b) [] p]
  | .for tg it b p => [.For (pyt tg) (pyi it) (pySs b) [] p]
  | .rai c q q2 p => [.Raise (some (.Call (.Name c q) [] [] q2)) none p]
  | .brk p => [.Break p]
  | .cnt p => [.Continue p]
  | .pas p => [.Pass p]
  | .frz _ => []
  | .drop _ => []
def pySs : Ss → List Stmt
  | .nil => []
  | .cons a r => pyS a ++ pySs r
end
example (x : Str) (i : Nat) (p : Pos) : pyt (.nm x i p) = .Name x p := rfl
example (x : Str) (i : Nat) (p : Pos) (T : List Fn) : ev T (.var x i p) = fun e => .ok (e.getD i .none, e) := rfl
example (x : Str) (i : Nat) (p : Pos) (T : List Fn) : exs T .nil = mp .nx := rfl
end VL


set_option Elab.async false
set_option linter.all false
set_option maxRecDepth 100000
/-! VL2: how data lie in the abstract heap; what is owned. -/
namespace VL
abbrev St := L2.St
open PySem PySem.Spec L2

/-- a list that nobody writes any more -/
def FzL (H : Hp) (a : Addr) (xs : List V) : Prop := ∃ o, H a = some (.frz o (.lst xs))
/-- .. or stands in the written part -/
def FzK (K : PySem.W.Frag) (H : Hp) (a : Addr) (xs : List V) : Prop :=
  FzL H a xs ∨
    ∃ (o : Obj) (its : Array Value) (n : Nat), K.lookup a = some o ∧ o.cls = .type "list" ∧ o.dict = none ∧ o.data = .seq its n ∧ its.size ≤ sizeLine ∧ Vals xs its.toList
def FzT (K : PySem.W.Frag) (H : Hp) (a : Addr) (xs : List V) : Prop := H a = some (.tup xs)
theorem FzT.sq {K : PySem.W.Frag} {H : Hp} {a : Addr} {xs : List V} (h : FzT K H a xs) : SqT K H a xs := .inl (.inl h)
def kD : Key → Dt
  | .inl i => .int i
  | .inr x => .str x

mutual
/-- shared data -/
inductive Sh (K : PySem.W.Frag) (H : Hp) : V → Dt → Prop where
  | non : Sh K H .non .none
  | bl (b : Bool) : Sh K H (.bl b) (.bool b)
  | int (i : Int) : Sh K H (.int i) (.int i)
  | str (x : Str) : Sh K H (.str x) (.str x)
  | lst {a : Addr} {xs : List V} {ds : List Dt} : FzL H a xs → ShA K H xs ds → Sh K H (.ref a) (.list ds)
  | tup {a : Addr} {xs : List V} {ds : List Dt} : FzT K H a xs → ShA K H xs ds → Sh K H (.ref a) (.tuple ds)
  | dct {a : Addr} {o : Obj} {kvs : List (Key × V)} {ds : List (Dt × Dt)} : H a = some (.frz o (.dK kvs)) → ShK K H kvs ds → Sh K H (.ref a) (.dict ds)
  | dcT {a : Addr} {o : Obj} {kvs : List (List Key × V)} {ds : List (Dt × Dt)} : H a = some (.frz o (.dT kvs)) → ShT K H kvs ds → Sh K H (.ref a) (.dict ds)
inductive ShA (K : PySem.W.Frag) (H : Hp) : List V → List Dt → Prop where
  | nil : ShA K H [] []
  | cons {v : V} {vs : List V} {d : Dt} {ds : List Dt} : Sh K H v d → ShA K H vs ds → ShA K H (v :: vs) (d :: ds)
inductive ShK (K : PySem.W.Frag) (H : Hp) : List (Key × V) → List (Dt × Dt) → Prop where
  | nil : ShK K H [] []
  | cons {k : Key} {v : V} {vs : List (Key × V)} {d : Dt} {ds : List (Dt × Dt)} : Sh K H v d → ShK K H vs ds → ShK K H ((k, v) :: vs) ((kD k, d) :: ds)
inductive ShT (K : PySem.W.Frag) (H : Hp) : List (List Key × V) → List (Dt × Dt) → Prop where
  | nil : ShT K H [] []
  | cons {k : List Key} {v : V} {vs : List (List Key × V)} {d : Dt} {ds : List (Dt × Dt)} : Sh K H v d → ShT K H vs ds → ShT K H ((k, v) :: vs) ((.tuple (k.map kD), d) :: ds)
end
/-- what never changes -/
def immO : HO → Bool
  | .tup _ => true
  | .frz _ _ => true
  | _ => false
def Im (H H' : Hp) : Prop := ∀ a o, H a = some o → immO o = true → H' a = some o
theorem Im.refl (H : Hp) : Im H H := fun _ _ h _ => h
theorem Im.trans {H H1 H2 : Hp} (a : Im H H1) (b : Im H1 H2) : Im H H2 := fun c o h i => b c o (a c o h i) i
theorem Im.of {H H' : Hp} (e : Same H H') : Im H H' := fun a o h _ => e a o h
section
variable {K : PySem.W.Frag} {H H' : Hp} {a : Addr} {xs : List V}
theorem FzL.mono (i : Im H H') (h : FzL H a xs) : FzL H' a xs := by
  obtain ⟨o, h⟩ := h
  exact ⟨o, i _ _ h rfl⟩
theorem FzK.mono (i : Im H H') (h : FzK K H a xs) : FzK K H' a xs := by
  rcases h with h | h
  · exact .inl (h.mono i)
  · exact .inr h
theorem FzL.rd (h : FzL H a xs) : Rd H a (.lst xs) := .inr h
theorem FzK.sq (h : FzK K H a xs) : SqL K H a xs := by
  rcases h with h | h
  · exact .inl (.inr h)
  · exact .inr h
theorem FzT.mono (i : Im H H') (h : FzT K H a xs) : FzT K H' a xs := i _ _ h rfl
theorem FzL.sq (h : FzL H a xs) : SqL K H a xs := .inl (.inr h)
mutual
theorem Sh.mono (i : Im H H') : ∀ {v : V} {d : Dt}, Sh K H v d → Sh K H' v d
  | _, _, .non => .non
  | _, _, .bl b => .bl b
  | _, _, .int n => .int n
  | _, _, .str x => .str x
  | _, _, .lst h t => .lst (h.mono i) (ShA.mono i t)
  | _, _, .tup h t => .tup (h.mono i) (ShA.mono i t)
  | _, _, .dct h t => .dct (i _ _ h rfl) (ShK.mono i t)
  | _, _, .dcT h t => .dcT (i _ _ h rfl) (ShT.mono i t)
theorem ShA.mono (i : Im H H') : ∀ {vs : List V} {ds : List Dt}, ShA K H vs ds → ShA K H' vs ds
  | _, _, .nil => .nil
  | _, _, .cons h t => .cons (Sh.mono i h) (ShA.mono i t)
theorem ShK.mono (i : Im H H') : ∀ {vs : List (Key × V)} {ds : List (Dt × Dt)}, ShK K H vs ds → ShK K H' vs ds
  | _, _, .nil => .nil
  | _, _, .cons h t => .cons (Sh.mono i h) (ShK.mono i t)
theorem ShT.mono (i : Im H H') : ∀ {vs : List (List Key × V)} {ds : List (Dt × Dt)}, ShT K H vs ds → ShT K H' vs ds
  | _, _, .nil => .nil
  | _, _, .cons h t => .cons (Sh.mono i h) (ShT.mono i t)
end
mutual
theorem Sh.dp : ∀ {v : V} {d : Dt}, Sh K H v d → SeqAt.shaped d = true ∨ True → d.canLay0 = true → Dp K H v d
  | _, _, .non, _, _ => .non
  | _, _, .bl b, _, _ => .bl b
  | _, _, .int n, _, _ => .int n
  | _, _, .str x, _, _ => .str x
  | _, _, .lst h t, _, c => .lst h.sq (ShA.dp t (by simpa [PyData.canLay0] using c))
  | _, _, .tup h t, _, c => .tup h.sq (ShA.dp t (by simpa [PyData.canLay0] using c))
  | _, _, .dct h t, _, c => by simp [PyData.canLay0] at c
  | _, _, .dcT h t, _, c => by simp [PyData.canLay0] at c
theorem ShA.dp : ∀ {vs : List V} {ds : List Dt}, ShA K H vs ds → PyData.canLayAll0 ds = true → DpAll K H vs ds
  | _, _, .nil, _ => .nil
  | _, _, .cons h t, c => by
    have c' := (Bool.and_eq_true_iff.mp (by simpa only [PyData.canLayAll0] using c))
    exact .cons (Sh.dp h (.inr trivial) c'.1) (ShA.dp t c'.2)
end
theorem ShA.length : ∀ {vs : List V} {ds : List Dt}, ShA K H vs ds → vs.length = ds.length
  | _, _, .nil => rfl
  | _, _, .cons _ t => by rw [List.length_cons, List.length_cons, ShA.length t]
theorem ShA.get : ∀ {vs : List V} {ds : List Dt} {i : Nat} {d : Dt}, ShA K H vs ds → ds[i]? = some d → ∃ v, vs[i]? = some v ∧ Sh K H v d
  | _, _, _, _, .nil, e => by simp at e
  | _, _, 0, _, .cons h _, e => by simp at e; subst e; exact ⟨_, rfl, h⟩
  | _, _, i + 1, d, .cons _ t, e => by
    obtain ⟨v, h1, h2⟩ := ShA.get (i := i) (d := d) t (by simpa using e)
    exact ⟨v, by simpa using h1, h2⟩
theorem ShA.append : ∀ {vs ws : List V} {ds es : List Dt}, ShA K H vs ds → ShA K H ws es → ShA K H (vs ++ ws) (ds ++ es)
  | _, _, _, _, .nil, s => s
  | _, _, _, _, .cons r t, s => .cons r (ShA.append t s)
theorem ShA.take : ∀ {vs : List V} {ds : List Dt} (n : Nat), ShA K H vs ds → ShA K H (vs.take n) (ds.take n)
  | _, _, 0, _ => .nil
  | _, _, _ + 1, .nil => .nil
  | _, _, n + 1, .cons r t => .cons r (ShA.take n t)
theorem ShA.drop : ∀ {vs : List V} {ds : List Dt} (n : Nat), ShA K H vs ds → ShA K H (vs.drop n) (ds.drop n)
  | _, _, 0, r => r
  | _, _, _ + 1, .nil => .nil
  | _, _, n + 1, .cons _ t => ShA.drop n t
theorem ShA.rep {vs : List V} {ds : List Dt} (h : ShA K H vs ds) : ∀ n : Nat, ShA K H (List.replicate n vs).flatten (List.replicate n ds).flatten
  | 0 => .nil
  | n + 1 => by rw [List.replicate_succ, List.flatten_cons, List.replicate_succ, List.flatten_cons]; exact h.append (ShA.rep h n)
theorem ShT.length : ∀ {vs : List (List Key × V)} {ds : List (Dt × Dt)}, ShT K H vs ds → vs.length = ds.length
  | _, _, .nil => rfl
  | _, _, .cons _ t => by rw [List.length_cons, List.length_cons, ShT.length t]
theorem ShK.length : ∀ {vs : List (Key × V)} {ds : List (Dt × Dt)}, ShK K H vs ds → vs.length = ds.length
  | _, _, .nil => rfl
  | _, _, .cons _ t => by rw [List.length_cons, List.length_cons, ShK.length t]
end

mutual
/-- owned data: the list at the top of A is ours to write, so are its lists down to t's depth -/
inductive Rep (K : PySem.W.Frag) (H : Hp) : Ty → V → Dt → List Addr → Prop where
  | sh {v : V} {d : Dt} : Sh K H v d → Rep K H .sh v d []
  | ls {t : Ty} {a : Addr} {xs : List V} {ds : List Dt} {A : List Addr} : H a = some (.lst xs) → RepA K H t xs ds A → a ∉ A → Rep K H (.ls t) (.ref a) (.list ds) (a :: A)
  | ks {a : Addr} {xs : List V} {ds : List Dt} : FzK K H a xs → ShA K H xs ds → Rep K H .ks (.ref a) (.list ds) []
  | kl {a : Addr} {xs : List V} {ds : List Dt} : H a = some (.lst xs) → ShA K H xs ds → Rep K H .ks (.ref a) (.list ds) [a]
inductive RepA (K : PySem.W.Frag) (H : Hp) : Ty → List V → List Dt → List Addr → Prop where
  | nil {t : Ty} : RepA K H t [] [] []
  | cons {t : Ty} {v : V} {vs : List V} {d : Dt} {ds : List Dt} {A B : List Addr} : Rep K H t v d A → RepA K H t vs ds B → (∀ a ∈ A, a ∉ B) → RepA K H t (v :: vs) (d :: ds) (A ++ B)
end
section
variable {K : PySem.W.Frag} {H H' : Hp}
mutual
theorem Rep.foot : ∀ {t : Ty} {v : V} {d : Dt} {A : List Addr}, Rep K H t v d A → ∀ a ∈ A, ∃ xs, H a = some (.lst xs)
  | _, _, _, _, .sh _, a, h => by cases h
  | _, _, _, _, .ks _ _, a, h => by cases h
  | _, _, _, _, .kl e _, a, h => by
    rcases List.mem_cons.mp h with rfl | h
    · exact ⟨_, e⟩
    · cases h
  | _, _, _, _, .ls e r _, a, h => by
    rcases List.mem_cons.mp h with rfl | h
    · exact ⟨_, e⟩
    · exact RepA.foot r a h
theorem RepA.foot : ∀ {t : Ty} {v : List V} {d : List Dt} {A : List Addr}, RepA K H t v d A → ∀ a ∈ A, ∃ xs, H a = some (.lst xs)
  | _, _, _, _, .nil, a, h => by cases h
  | _, _, _, _, .cons r s _, a, h => by
    rcases List.mem_append.mp h with h | h
    · exact Rep.foot r a h
    · exact RepA.foot s a h
end
mutual
theorem Rep.mono (i : Im H H') : ∀ {t : Ty} {v : V} {d : Dt} {A : List Addr}, Rep K H t v d A → (∀ a ∈ A, ∀ o, H a = some o → H' a = some o) → Rep K H' t v d A
  | _, _, _, _, .sh h, _ => .sh (h.mono i)
  | _, _, _, _, .ks h s, _ => .ks (h.mono i) (s.mono i)
  | _, _, _, _, .kl e s, k => .kl (k _ List.mem_cons_self _ e) (s.mono i)
  | _, _, _, _, .ls e r n, k => .ls (k _ List.mem_cons_self _ e) (RepA.mono i r fun a h => k a (List.mem_cons_of_mem _ h)) n
theorem RepA.mono (i : Im H H') : ∀ {t : Ty} {v : List V} {d : List Dt} {A : List Addr}, RepA K H t v d A → (∀ a ∈ A, ∀ o, H a = some o → H' a = some o) → RepA K H' t v d A
  | _, _, _, _, .nil, _ => .nil
  | _, _, _, _, .cons r s n, k => .cons (Rep.mono i r fun a h => k a (List.mem_append_left _ h)) (RepA.mono i s fun a h => k a (List.mem_append_right _ h)) n
end
theorem RepA.length : ∀ {t : Ty} {v : List V} {d : List Dt} {A : List Addr}, RepA K H t v d A → v.length = d.length
  | _, _, _, _, .nil => rfl
  | _, _, _, _, .cons _ t _ => by rw [List.length_cons, List.length_cons, RepA.length t]
theorem RepA.sh : ∀ {v : List V} {d : List Dt} {A : List Addr}, RepA K H .sh v d A → ShA K H v d ∧ A = []
  | _, _, _, .nil => ⟨.nil, rfl⟩
  | _, _, _, .cons r s _ => by
    obtain ⟨h1, h2⟩ := RepA.sh s
    cases r with
    | sh h => exact ⟨.cons h h1, by simp [h2]⟩
theorem RepA.of_sh : ∀ {v : List V} {d : List Dt}, ShA K H v d → RepA K H .sh v d []
  | _, _, .nil => .nil
  | _, _, .cons h t => by
    have z : RepA K H .sh _ _ ([] ++ []) := .cons (.sh h) (RepA.of_sh t) (fun _ h => by cases h)
    exact z
theorem RepA.get : ∀ {t : Ty} {vs : List V} {ds : List Dt} {A : List Addr} {i : Nat} {d : Dt}, RepA K H t vs ds A → ds[i]? = some d → ∃ v B, vs[i]? = some v ∧ Rep K H t v d B ∧ ∀ a ∈ B, a ∈ A
  | _, _, _, _, _, _, .nil, e => by simp at e
  | _, _, _, _, 0, _, .cons h _ _, e => by simp at e; subst e; exact ⟨_, _, rfl, h, fun a z => List.mem_append_left _ z⟩
  | _, _, _, _, i + 1, d, .cons _ t _, e => by
    obtain ⟨v, B, h1, h2, h3⟩ := RepA.get (i := i) (d := d) t (by simpa using e)
    exact ⟨v, B, by simpa using h1, h2, fun a z => List.mem_append_right _ (h3 a z)⟩
end

/-! ### the slots -/
def ownS : Sl → Bool
  | .own _ => true
  | .ref _ => true
  | _ => false
/-- what stays the same through a def: the written part, the lambdas' tables, the values of the parameters that are changed in place -/
structure B where
  K : PySem.W.Frag
  tabs : Hp → Prop
  exc : Str → List Dt → Value → Option Addr → Hp → Prop
  /-- the tables hang on no list -/
  tm : ∀ H H' : Hp, (∀ a o, H a = some o → (∀ xs, o ≠ .lst xs) → ((∀ kvs, o ≠ .dK kvs) ∧ ∀ kvs, o ≠ .dT kvs) → H' a = some o) → tabs H → tabs H'
structure G extends B where
  rho : List V
def SlOk (g : G) (H : Hp) (i : Nat) : Sl → V → Dt → List Addr → Prop
  | .no, _, _, _ => True
  | .own t, v, d, A => Rep g.K H t v d A
  | .ref t, v, d, A => Rep g.K H t v d A ∧ g.rho[i]? = some v
  | .bor t, v, d, A => Rep g.K H t v d A ∨ (Sh g.K H v d ∧ A = [])
abbrev Ft := Nat → List Addr
def ow1 : Sl → Bool
  | .own _ => true
  | _ => false
structure Rel (g : G) (c : Cn) (e : Ev) (σ : St) (H : Hp) (f : Ft) : Prop where
  lenE : e.length = σ.length
  lenC : c.length = σ.length
  at_ : ∀ i sl, c[i]? = some sl → sl ≠ .no → ∃ v, σ[i]? = some (some v) ∧ SlOk g H i sl v (e.getD i .none) (f i)
  free : ∀ i, c.getD i .no = .no → f i = []
  dis : ∀ i j a, i ≠ j → ownS (c.getD i .no) = true → a ∈ f i → a ∉ f j
  tabs : g.tabs H
def Fr (c : Cn) (f : Ft) (H H' : Hp) : Prop := ∀ a o, H a = some o → (∀ i, ownS (c.getD i .no) = true → a ∉ f i) → (∀ ps, o ≠ .tbl ps) → H' a = some o
/-- from one state to another -/
structure Stp (c : Cn) (e : Ev) (H : Hp) (f : Ft) (e' : Ev) (H' : Hp) (f' : Ft) : Prop where
  fr : Fr c f H H'
  old : ∀ a, H' a = none → H a = none
  gro : ∀ i a, ownS (c.getD i .no) = true → a ∈ f' i → (∃ j, ownS (c.getD j .no) = true ∧ a ∈ f j ∧ (j = i ∨ ow1 (c.getD j .no) = true)) ∨ H a = none
  keep : ∀ i, ownS (c.getD i .no) = false → f' i = f i ∧ (c.getD i .no ≠ .no → e'.getD i .none = e.getD i .none)
section
variable {g : G} {c : Cn} {e e1 e2 : Ev} {σ : St} {H H1 H2 : Hp} {f f1 f2 : Ft}
theorem Stp.refl : Stp c e H f e H f := ⟨fun _ _ h _ _ => h, fun _ h => h, fun i _ o h => .inl ⟨i, o, h, .inl rfl⟩, fun _ _ => ⟨rfl, fun _ => rfl⟩⟩
theorem Stp.trans (a : Stp c e H f e1 H1 f1) (b : Stp c e1 H1 f1 e2 H2 f2) : Stp c e H f e2 H2 f2 := by
  refine ⟨fun x o h n nt => ?_, fun x h => a.old x (b.old x h), fun i x o h => ?_, fun i n => ?_⟩
  · have h1 := a.fr x o h n nt
    refine b.fr x o h1 (fun i ho hm => ?_) nt
    rcases a.gro i x ho hm with ⟨j, hj, z, _⟩ | z
    · exact n j hj z
    · rw [h] at z; cases z
  · rcases b.gro i x o h with ⟨j, hj, z, w⟩ | z
    · rcases a.gro j x hj z with ⟨k, hk, y, v⟩ | y
      · refine .inl ⟨k, hk, y, ?_⟩
        rcases v with v | v
        · rw [v]; exact w
        · exact .inr v
      · exact .inr y
    · exact .inr (a.old x z)
  · obtain ⟨p1, p2⟩ := a.keep i n
    obtain ⟨q1, q2⟩ := b.keep i n
    exact ⟨q1.trans p1, fun z => (q2 z).trans (p2 z)⟩
/-- the heap grows -/
theorem Stp.ext (x : Same H H1) : Stp c e H f e H1 f :=
  ⟨fun a o h _ _ => x a o h, fun a h => x.free h, fun i _ o h => .inl ⟨i, o, h, .inl rfl⟩, fun _ _ => ⟨rfl, fun _ => rfl⟩⟩
/-- what the slots' parts are -/
theorem SlOk.foot {i : Nat} {sl : Sl} {v : V} {d : Dt} {A : List Addr} (h : SlOk g H i sl v d A) (n : sl ≠ .no) : ∀ a ∈ A, ∃ xs, H a = some (.lst xs) := by
  cases sl with
  | no => exact absurd rfl n
  | own t => exact Rep.foot h
  | ref t => exact Rep.foot h.1
  | bor t =>
    rcases h with h | h
    · exact Rep.foot h
    · intro a ha; rw [h.2] at ha; cases ha
theorem SlOk.mono {i : Nat} {sl : Sl} {v : V} {d : Dt} {A : List Addr} (h : SlOk g H i sl v d A) (m : Im H H1) (k : ∀ a ∈ A, ∀ o, H a = some o → H1 a = some o) : SlOk g H1 i sl v d A := by
  cases sl with
  | no => trivial
  | own t => exact Rep.mono m h k
  | ref t => exact ⟨Rep.mono m h.1 k, h.2⟩
  | bor t =>
    rcases h with h | h
    · exact .inl (Rep.mono m h k)
    · exact .inr ⟨h.1.mono m, h.2⟩
theorem getD_eq {i : Nat} {sl : Sl} (h : c[i]? = some sl) : c.getD i .no = sl := by rw [List.getD_eq_getElem?_getD, h]; rfl
theorem get_of {i : Nat} {sl : Sl} (h : c.getD i .no = sl) (n : sl ≠ .no) : c[i]? = some sl := by
  rw [List.getD_eq_getElem?_getD] at h
  cases q : c[i]? with
  | none => rw [q] at h; exact absurd h.symm n
  | some x => rw [q] at h; rw [show x = sl from h]
theorem Rel.foot (r : Rel g c e σ H f) : ∀ i a, a ∈ f i → ∃ xs, H a = some (.lst xs) := by
  intro i a h
  by_cases n : c.getD i .no = .no
  · rw [r.free i n] at h; cases h
  · obtain ⟨v, _, s⟩ := r.at_ i _ (get_of rfl n) n
    exact s.foot n a h
theorem Rel.im (r : Rel g c e σ H f) (s : Fr c f H H1) : Im H H1 := by
  intro a o h i
  refine s a o h (fun j _ hm => ?_) (fun ps z => by subst z; cases i)
  obtain ⟨xs, q⟩ := r.foot j a hm
  rw [h] at q; cases q; cases i
theorem Rel.get (r : Rel g c e σ H f) {i : Nat} {sl : Sl} (h : c[i]? = some sl) (n : sl ≠ .no) : ∃ v, σ[i]? = some (some v) ∧ SlOk g H i sl v (e.getD i .none) (f i) := r.at_ i sl h n
/-- the heap grows -/
theorem Rel.ext (r : Rel g c e σ H f) (x : Same H H1) (t : g.tabs H1) : Rel g c e σ H1 f :=
  ⟨r.lenE, r.lenC, fun i sl h n => let ⟨v, h1, h2⟩ := r.at_ i sl h n; ⟨v, h1, h2.mono (Im.of x) fun a _ o q => x a o q⟩, r.free, r.dis, t⟩
end

/-! ### lent slots -/
def lend1 : Sl → Sl
  | .own t => .bor t
  | .ref t => .bor t
  | s => s
def lend (c : Cn) (S : List Nat) : Cn := c.mapIdx fun i s => if i ∈ S then lend1 s else s
theorem lend_get {c : Cn} {S : List Nat} {i : Nat} : (lend c S)[i]? = (c[i]?).map fun s => if i ∈ S then lend1 s else s := by
  unfold lend; rw [List.getElem?_mapIdx]
theorem lend_getD {c : Cn} {S : List Nat} {i : Nat} : (lend c S).getD i .no = if i ∈ S then lend1 (c.getD i .no) else c.getD i .no := by
  rw [List.getD_eq_getElem?_getD, List.getD_eq_getElem?_getD, lend_get]
  cases c[i]? with
  | none => by_cases h : i ∈ S <;> simp [h, lend1]
  | some s => rfl
theorem lend_own {c : Cn} {S : List Nat} {i : Nat} (h : ownS ((lend c S).getD i .no) = true) : i ∉ S ∧ ownS (c.getD i .no) = true := by
  rw [lend_getD] at h
  by_cases hs : i ∈ S
  · rw [if_pos hs] at h
    cases q : c.getD i .no <;> rw [q] at h <;> simp [lend1, ownS] at h
  · rw [if_neg hs] at h; exact ⟨hs, h⟩
theorem lend_own' {c : Cn} {S : List Nat} {i : Nat} (h : i ∉ S) (o : ownS (c.getD i .no) = true) : ownS ((lend c S).getD i .no) = true := by
  rw [lend_getD, if_neg h]; exact o
section
variable {g : G} {c : Cn} {e e1 : Ev} {σ : St} {H H1 : Hp} {f f1 : Ft} {S : List Nat}
theorem lend1_no {s : Sl} (h : lend1 s = .no) : s = .no := by cases s <;> simp [lend1] at h ⊢
theorem lend_no {i : Nat} (h : (lend c S).getD i .no = .no) : c.getD i .no = .no := by
  rw [lend_getD] at h
  by_cases hs : i ∈ S
  · rw [if_pos hs] at h; exact lend1_no h
  · rw [if_neg hs] at h; exact h
theorem Rel.lend (r : Rel g c e σ H f) (S : List Nat) : Rel g (lend c S) e σ H f := by
  refine ⟨r.lenE, by unfold VL.lend; rw [List.length_mapIdx]; exact r.lenC, fun i sl h n => ?_, fun i h => r.free i (lend_no h), fun i j a hij o => r.dis i j a hij (lend_own o).2, r.tabs⟩
  rw [lend_get] at h
  cases q : c[i]? with
  | none => rw [q] at h; cases h
  | some s =>
    rw [q] at h
    have h' : (if i ∈ S then lend1 s else s) = sl := Option.some.inj h
    by_cases hs : i ∈ S
    · rw [if_pos hs] at h'
      have ns : s ≠ .no := fun z => by subst z; exact n h'.symm
      obtain ⟨v, h1, h2⟩ := r.at_ i s q ns
      refine ⟨v, h1, ?_⟩
      subst h'
      cases s with
      | no => trivial
      | own t => exact .inl h2
      | ref t => exact .inl h2.1
      | bor t => exact h2
    · rw [if_neg hs] at h'
      subst h'
      exact r.at_ i s q n
theorem Stp.lent (s : Stp (VL.lend c S) e H f e1 H1 f1) (r : Rel g c e σ H f) : Stp c e H f e1 H1 f1 := by
  refine ⟨fun a o h n nt => s.fr a o h (fun i ho => n i (lend_own ho).2) nt, s.old, fun i a o h => ?_, fun i n => ?_⟩
  · by_cases hs : i ∈ S
    · have z := (s.keep i (by
        cases q : ownS ((VL.lend c S).getD i .no) with
        | false => rfl
        | true => exact absurd hs (lend_own q).1)).1
      rw [z] at h; exact .inl ⟨i, o, h, .inl rfl⟩
    · rcases s.gro i a (lend_own' hs o) h with ⟨j, hj, z, w⟩ | z
      · refine .inl ⟨j, (lend_own hj).2, z, w.imp id fun w => ?_⟩
        rw [lend_getD, if_neg (lend_own hj).1] at w; exact w
      · exact .inr z
  · have z := s.keep i (by
      cases q : ownS ((VL.lend c S).getD i .no) with
      | false => rfl
      | true => rw [(lend_own q).2] at n; cases n)
    exact ⟨z.1, fun y => z.2 fun x => y (lend_no x)⟩
/-- what was lent comes back -/
theorem Rel.back (r1 : Rel g (VL.lend c S) e1 σ H1 f1) (r : Rel g c e σ H f) (s : Stp (VL.lend c S) e H f e1 H1 f1) : Rel g c e1 σ H1 f1 := by
  have kp : ∀ i, i ∈ S → f1 i = f i ∧ (c.getD i .no ≠ .no → e1.getD i .none = e.getD i .none) := fun i hi => by
    have z := s.keep i (by
      cases q : ownS ((VL.lend c S).getD i .no) with
      | false => rfl
      | true => exact absurd hi (lend_own q).1)
    exact ⟨z.1, fun y => z.2 fun x => y (lend_no x)⟩
  have im : Im H H1 := r.im (s.lent r).fr
  refine ⟨r1.lenE, r.lenC, fun i sl h n => ?_, fun i h => ?_, fun i j a hij o h => ?_, r1.tabs⟩
  · by_cases hs : i ∈ S
    · obtain ⟨v, h1, h2⟩ := r.at_ i sl h n
      obtain ⟨k1, k2⟩ := kp i hs
      refine ⟨v, h1, ?_⟩
      rw [k1, k2 (by rw [getD_eq h]; exact n)]
      refine h2.mono im fun a ha o q => ?_
      refine s.fr a o q (fun j oj hj => ?_) (fun ps z => ?_)
      · have hji : j ≠ i := fun z => (lend_own oj).1 (z ▸ hs)
        exact r.dis j i a hji (lend_own oj).2 hj ha
      · obtain ⟨xs, q'⟩ := h2.foot n a ha
        rw [z, q'] at q; cases q
    · have h' : (VL.lend c S)[i]? = some sl := by rw [lend_get, h]; simp [hs]
      exact r1.at_ i sl h' n
  · by_cases hs : i ∈ S
    · rw [(kp i hs).1]; exact r.free i h
    · refine r1.free i ?_
      rw [lend_getD, if_neg hs]; exact h
  · by_cases hs : i ∈ S
    · rw [(kp i hs).1] at h
      by_cases ho : ownS ((VL.lend c S).getD j .no) = true
      · intro hj
        rcases s.gro j a ho hj with ⟨k, hk, z, _⟩ | z
        · exact r.dis k i a (fun y => (lend_own hk).1 (y ▸ hs)) (lend_own hk).2 z h
        · obtain ⟨xs, q⟩ := r.foot i a h
          rw [z] at q; cases q
      · rw [(s.keep j (by simpa using ho)).1]
        exact r.dis i j a hij o h
    · exact r1.dis i j a hij (lend_own' hs o) h
end
end VL


set_option Elab.async false
set_option linter.all false
set_option maxRecDepth 100000
set_option maxHeartbeats 1000000
/-! VL2b: the order of nested data; min and max over a list or a tuple of such. -/
namespace VL
open PySem PySem.Spec PyProof.Rows L2
open PySem.SeqAt (eqAt_readsAll room_here room_in room_head room_tail pairEq)

def ordOp (o : CmpOp) : Bool := match o with
  | .Lt | .LtE | .Gt | .GtE => true
  | _ => false
theorem ordZ_succ {o : CmpOp} {m n : Nat} : ordZ o (m + 1) (n + 1) = ordZ o m n := by
  cases o <;> simp [ordZ]
/-- from the left to the first pair that differs -/
def lxs (o : CmpOp) : List Dt → List Dt → Bool
  | x :: xs, y :: ys => if PyData.eqv x y = true then lxs o xs ys else (ordV o x y).getD false
  | [], ys => ordZ o 0 ys.length
  | x :: xs, [] => ordZ o (xs.length + 1) 0
theorem lexAt_shift {e r : Nat → Bool} {z : Bool} : ∀ {k i : Nat}, Ob.lexAt e r z (i + 1) k = Ob.lexAt (fun j => e (j + 1)) (fun j => r (j + 1)) z i k
  | 0, _ => rfl
  | k + 1, i => by
    rw [Ob.lexAt_succ, Ob.lexAt_succ, lexAt_shift]
theorem lxs_at {o : CmpOp} : ∀ (xs ys : List Dt), Ob.lexAt (pairEq xs ys) (fun j => (ordV o (xs.getD j .none) (ys.getD j .none)).getD false) (ordZ o xs.length ys.length) 0 (min xs.length ys.length) = lxs o xs ys
  | [], ys => by
    have h : min ([] : List Dt).length ys.length = 0 := by simp
    rw [h]; rfl
  | x :: xs, [] => by
    have h : min (x :: xs).length ([] : List Dt).length = 0 := by simp
    rw [h]; rfl
  | x :: xs, y :: ys => by
    have h : min (x :: xs).length (y :: ys).length = min xs.length ys.length + 1 := by simp only [List.length_cons]; omega
    rw [h, Ob.lexAt_succ, List.length_cons, List.length_cons, ordZ_succ, lexAt_shift]
    have ih := lxs_at (o := o) xs ys
    show (if PyData.eqv x y = true then _ else (ordV o x y).getD false) = if PyData.eqv x y = true then lxs o xs ys else (ordV o x y).getD false
    rw [← ih]
    rfl
theorem lxs_of {o : CmpOp} : ∀ {xs ys : List Dt} {b : Bool}, ordVs o xs ys = some b → lxs o xs ys = b
  | [], ys, b, h => by simp only [ordVs, Option.some.injEq] at h; exact h
  | x :: xs, [], b, h => by simp only [ordVs, Option.some.injEq] at h; exact h
  | x :: xs, y :: ys, b, h => by
    simp only [ordVs, Option.bind_eq_some_iff, Option.map_eq_some_iff] at h
    obtain ⟨b1, h1, b2, h2, h3⟩ := h
    unfold lxs
    rw [lxs_of h2, h1]
    exact h3
theorem ords_at {o : CmpOp} : ∀ {xs ys : List Dt} {b : Bool}, ordVs o xs ys = some b → ∀ j, j < xs.length → j < ys.length → ∃ c, ordV o (xs.getD j .none) (ys.getD j .none) = some c
  | [], ys, b, h, j, h1, _ => absurd h1 (Nat.not_lt_zero _)
  | x :: xs, [], b, h, j, _, h2 => absurd h2 (Nat.not_lt_zero _)
  | x :: xs, y :: ys, b, h, j, h1, h2 => by
    simp only [ordVs, Option.bind_eq_some_iff, Option.map_eq_some_iff] at h
    obtain ⟨b1, e1, b2, e2, h3⟩ := h
    cases j with
    | zero => exact ⟨b1, e1⟩
    | succ j => exact ords_at e2 j (Nat.lt_of_succ_lt_succ h1) (Nat.lt_of_succ_lt_succ h2)
mutual
theorem rc_ord {o : CmpOp} (ho : ordOp o = true) : ∀ (da db : Dt) (k : Bool) (A : Around) (s : Shared) (a b : Value) (as bs : List Addr), ordV o da db = some k → Reads s.heap a da as → Reads s.heap b db bs → da.canLay0 = true → db.canLay0 = true → A.units + min da.depth db.depth < cLine → Ob.RcOp o A s a b k
  | .int i, db, k, A, s, a, b, as, bs, h, ra, rb, _, _, _ => by
    cases db <;> simp only [ordV, Option.some.injEq, reduceCtorEq] at h
    cases ra
    cases rb
    subst h
    cases o <;> simp only [ordOp, Bool.false_eq_true] at ho
    · exact Ob.RcOp.lt_int _ _ _ _
    · exact Ob.RcOp.le_int _ _ _ _
    · exact Ob.RcOp.gt_int _ _ _ _
    · exact Ob.RcOp.ge_int _ _ _ _
  | .tuple xs, db, k, A, s, a, b, as, bs, h, ra, rb, ha, hb, hu => by
    cases db <;> simp only [ordV, reduceCtorEq] at h
    rename_i ys
    cases ra with
    | @tuple l ob vs n _ as₁ h1 h2 h3 h4 =>
      cases rb with
      | @tuple l' ob' vs' n' _ bs₁ k1 k2 k3 k4 =>
        have hl : s.heap.IsTuple l vs := ⟨_, h1, h2, _, h3⟩
        have hl' : s.heap.IsTuple l' vs' := ⟨_, k1, k2, _, k3⟩
        have n1 : vs.size = xs.length := by simpa using SeqAt.ReadsAll.length _ _ _ h4
        have n2 : vs'.size = ys.length := by simpa using SeqAt.ReadsAll.length _ _ _ k4
        have e := lxs_of h
        rw [← lxs_at xs ys, ← n1, ← n2] at e
        have heq : ∀ j (j1 : j < vs.size) (j2 : j < vs'.size), SeqAt.EqAt A.in1 s vs[j] vs'[j] (pairEq xs ys j) := fun j j1 j2 => by
          have := eqAt_readsAll xs ys A.in1 s vs.toList vs'.toList _ _ h4 k4 ha hb (room_in hu) j (by simpa using j1) (by simpa using j2)
          simpa using this
        have hrc : ∀ j (j1 : j < vs.size) (j2 : j < vs'.size), pairEq xs ys j = false → Ob.RcOp o A.in1 s vs[j] vs'[j] ((ordV o (xs.getD j .none) (ys.getD j .none)).getD false) := fun j j1 j2 _ => by
          have := rc_ords ho xs ys k A.in1 s vs.toList vs'.toList _ _ h h4 k4 ha hb (room_in hu) j (by simpa using j1) (by simpa using j2)
          simpa using this
        rw [← e]
        cases o <;> simp only [ordOp, Bool.false_eq_true] at ho
        · exact Ob.RcOp.tuples_lt hl hl' (room_here hu) heq hrc
        · exact Ob.RcOp.tuples_le hl hl' (room_here hu) heq hrc
        · exact Ob.RcOp.tuples_gt hl hl' (room_here hu) heq hrc
        · exact Ob.RcOp.tuples_ge hl hl' (room_here hu) heq hrc
  | .none, _, _, _, _, _, _, _, _, h, _, _, _, _, _ => by simp [ordV] at h
  | .bool _, _, _, _, _, _, _, _, _, h, _, _, _, _, _ => by simp [ordV] at h
  | .str _, _, _, _, _, _, _, _, _, h, _, _, _, _, _ => by simp [ordV] at h
  | .list _, _, _, _, _, _, _, _, _, h, _, _, _, _, _ => by simp [ordV] at h
  | .dict _, _, _, _, _, _, _, _, _, h, _, _, _, _, _ => by simp [ordV] at h
theorem rc_ords {o : CmpOp} (ho : ordOp o = true) : ∀ (xs ys : List Dt) (k : Bool) (A : Around) (s : Shared) (vs ws : List Value) (as bs : List Addr), ordVs o xs ys = some k → ReadsAll s.heap vs xs as → ReadsAll s.heap ws ys bs → PyData.canLayAll0 xs = true → PyData.canLayAll0 ys = true →
    A.units + min (PyData.depthAll xs) (PyData.depthAll ys) < cLine → ∀ j (h1 : j < vs.length) (h2 : j < ws.length), Ob.RcOp o A s vs[j] ws[j] ((ordV o (xs.getD j .none) (ys.getD j .none)).getD false)
  | [], _, _, _, _, _, _, _, _, _, ra, _, _, _, _, j, h1, _ => by cases ra; exact absurd h1 (Nat.not_lt_zero _)
  | _ :: _, [], _, _, _, _, _, _, _, _, _, rb, _, _, _, j, _, h2 => by cases rb; exact absurd h2 (Nat.not_lt_zero _)
  | x :: xs, y :: ys, k, A, s, _, _, _, _, h, ra, rb, ha, hb, hu, j, h1, h2 => by
    have ha' : x.canLay0 = true ∧ PyData.canLayAll0 xs = true := by simpa [PyData.canLayAll0] using ha
    have hb' : y.canLay0 = true ∧ PyData.canLayAll0 ys = true := by simpa [PyData.canLayAll0] using hb
    simp only [ordVs, Option.bind_eq_some_iff, Option.map_eq_some_iff] at h
    obtain ⟨b1, e1, b2, e2, h3⟩ := h
    cases ra with
    | cons r rs =>
      cases rb with
      | cons r' rs' =>
        cases j with
        | zero =>
          have z := rc_ord ho x y b1 A s _ _ _ _ e1 r r' ha'.1 hb'.1 (room_head hu)
          show Ob.RcOp o A s _ _ ((ordV o x y).getD false)
          rw [e1]
          exact z
        | succ j => exact rc_ords ho xs ys b2 A s _ _ _ _ e2 rs rs' ha'.2 hb'.2 (room_tail hu) j (Nat.lt_of_succ_lt_succ h1) (Nat.lt_of_succ_lt_succ h2)
end
theorem rc_ordD {o : CmpOp} (ho : ordOp o = true) {da db : Dt} {k : Bool} {A : Around} {s : Shared} {a b : Value} {as bs : List Addr} (h : ordD o da db = some k) (ra : Reads s.heap a da as) (rb : Reads s.heap b db bs) (hu : A.units + 64 < cLine) : Ob.RcOp o A s a b k := by
  unfold ordD at h
  split at h
  · rename_i hs
    exact rc_ord ho da db k A s a b as bs h ra rb (SeqAt.canLay_of_shaped hs.1) (SeqAt.canLay_of_shaped hs.2) (SeqAt.room_of_shaped hs.1 hu)
  · cases h

/-! ### min -/
section
variable {prog : Program} {w : World} {A : Around} {R : Result → Shared → Prop} {I : Addr} {fp wr : List Addr} {St : Nat → Heap → Prop} {h0 : Heap} {its : Array Value} {ds : List Dt}
/-- an item and what it says -/
def Itm (h0 : Heap) (its : Array Value) (ds : List Dt) (v : Value) (d : Dt) : Prop := ∃ i : Nat, its[i]? = some v ∧ ds[i]? = some d
theorem min_turns (W : Walks prog w A.in1 I fp wr its.size (fun i v => its[i]? = some v) St) (hwr : ∀ b ∈ wr, h0.get? b = none) (hr : ∀ (i : Nat) v, its[i]? = some v → ∃ d as, ds[i]? = some d ∧ Reads h0 v d as) (hlen : its.size = ds.length) (hu : A.units + 66 < cLine)
    (rmono : ∀ {h' : Heap} {v : Value} {d : Dt} {as : List Addr}, (∀ b o, h0.get? b = some o → h'.get? b = some o) → Reads h0 v d as → Reads h' v d as) (S : Addr) (hSf : S ∉ fp) (hS0 : h0.get? S = none) :
    ∀ (k j : Nat) (s : Shared) (vb : Value) (db r : Dt) (c : Nat), its.size - (j + 1) = k → j + 1 ≤ its.size → St (j + 1) s.heap → (∀ b o, h0.get? b = some o → s.heap.get? b = some o) → Itm h0 its ds vb db → bestD .Lt db (ds.drop (j + 1)) = some r →
    s.heap.get? S = some { cls := .type "list", dict := none, data := .seq #[vb, vb] c, slots := #[] } →
    (∀ v h' tk, Itm h0 its ds v r → (∀ b o, h0.get? b = some o → h'.get? b = some o) → R (.ok (.ret v)) { s with heap := h', toks := tk }) →
    codeAny (model prog w) A (.builtin "min.loop" ⟨[.ref I, .none, .ref S], []⟩) R s := by
  have hSw : S ∉ wr := fun h => hSf (W.sub _ h)
  have away : ∀ b o, h0.get? b = some o → b ∉ wr ∧ b ≠ S := fun b o e => ⟨fun hm => (by rw [hwr b hm] at e; cases e), fun z => (by rw [z, hS0] at e; cases e)⟩
  have hname : (toString "min" ++ toString ".loop" : String) = "min.loop" := by decide
  intro k
  induction k with
  | zero =>
    intro j s vb db r c hk hj hst h0s hPb hbest hS hR
    have hin : j + 1 = its.size := by omega
    rw [List.drop_of_length_le (by omega)] at hbest
    cases hbest
    refine codeAny_builtin PySem.F.entry_min_loop ?_
    rw [Around.under_plainId PySem.F.plain_min_loop _]
    show wpAny _ A.in1 (seqItems? (.ref S) >>= _) _ _ s
    refine wpAny_bind (wpAny_seqItems hS rfl ?_)
    show wpAny _ A.in1 (tryCatch (pyNext (.ref I)) _ >>= _) _ _ s
    refine wpAny_bind (wpAny_tryCatch (W.done s _ _ (hin ▸ hst) fun h' tk kept => ?_))
    have hS' := kept S _ hSw hS
    show wpAny _ A.in1 (updateSeq S (fun _ => #[]) >>= _) _ _ _
    refine wpAny_bind ?_
    refine wpAny_updateSeq hS' rfl (wpAny_bind (wpAny_letGo (wpAny_pure ?_)))
    exact hR vb _ tk hPb fun b o e => (Heap.get?_update_other _ _ (Ne.symm (away b o e).2)).trans (kept b o (away b o e).1 (h0s b o e))
  | succ k ih =>
    intro j s vb db r c hk hj hst h0s hPb hbest hS hR
    have hlt : j + 1 < its.size := by omega
    refine codeAny_builtin PySem.F.entry_min_loop ?_
    rw [Around.under_plainId PySem.F.plain_min_loop _]
    show wpAny _ A.in1 (seqItems? (.ref S) >>= _) _ _ s
    refine wpAny_bind (wpAny_seqItems hS rfl ?_)
    show wpAny _ A.in1 (tryCatch (pyNext (.ref I)) _ >>= _) _ _ s
    refine wpAny_bind (wpAny_tryCatch (W.item (j + 1) s _ _ hlt hst fun v h' tk hP hst' kept => ?_))
    have hS' := kept S _ hSw hS
    have h0' : ∀ b o, h0.get? b = some o → h'.get? b = some o := fun b o e => kept b o (away b o e).1 (h0s b o e)
    obtain ⟨dv, av, hdv, rv⟩ := hr _ _ hP
    obtain ⟨ib, hvb, hdb⟩ := hPb
    obtain ⟨db', ab, hdb', rb⟩ := hr _ _ hvb
    rw [hdb] at hdb'
    cases hdb'
    have hlt2 : j + 1 < ds.length := by omega
    rw [List.drop_eq_getElem_cons hlt2] at hbest
    have hdv' : ds[j + 1] = dv := by rw [List.getElem?_eq_getElem hlt2] at hdv; exact Option.some.inj hdv
    rw [hdv'] at hbest
    simp only [bestD, Option.bind_eq_some_iff] at hbest
    obtain ⟨bt, hbt, hbest⟩ := hbest
    have cmp := rc_ordD (A := A.in1) (s := { s with heap := h', toks := tk }) (o := .Lt) rfl hbt (rmono h0' rv) (rmono h0' rb) (by show A.units + 1 + 64 < cLine; omega) prog w
    show wpAny _ A.in1 (tryCatch (holding [v, v] (richCompare .Lt v vb >>= _)) _ >>= _) _ _ _
    refine wpAny_bind (wpAny_tryCatch (wpAny_holding (wpAny_bind (cmp _ _ ?_))))
    refine wpAny_bind (wpAny_holding (wpAny_truthy_bool ?_))
    refine wpAny_bind (wpAny_letGo (wpAny_pure ?_))
    cases bt with
    | true =>
      simp only [if_true] at hbest ⊢
      refine wpAny_bind ?_
      refine wpAny_updateSeq hS' rfl (wpAny_bind (wpAny_letGo ?_))
      rw [hname]
      refine wpAny_pure ⟨plainId_quiet PySem.F.plain_min_loop _, ih (j + 1) _ v dv r _ (by omega) hlt (W.frame _ _ _ hst' fun b hbf o e => ?_) (fun b o e => ?_) ⟨j + 1, hP, hdv⟩ hbest (Heap.get?_update_self _ hS' rfl) fun v' h'' tk'' hP' kept' => hR v' h'' tk'' hP' kept'⟩
      · exact (Heap.get?_update_other _ _ (fun h : S = b => hSf (by rw [h]; exact hbf))).trans e
      · exact (Heap.get?_update_other _ _ (Ne.symm (away b o e).2)).trans (h0' b o e)
    | false =>
      simp only [Bool.false_eq_true, if_false] at hbest ⊢
      refine wpAny_bind (wpAny_letGo ?_)
      rw [hname]
      exact wpAny_pure ⟨plainId_quiet PySem.F.plain_min_loop _, ih (j + 1) _ vb db r c (by omega) hlt hst' h0' ⟨ib, hvb, hdb⟩ hbest hS' fun v' h'' tk'' hP' kept' => hR v' h'' tk'' hP' kept'⟩
theorem min_data {E : Value → Shared → Prop} {s : Shared} {x : Value} {d0 r : Dt} {dr : List Dt} {Q : Value → Shared → Prop} (hds : ds = d0 :: dr) (hbest : bestD .Lt d0 dr = some r) (hr : ∀ (i : Nat) v, its[i]? = some v → ∃ d as, ds[i]? = some d ∧ Reads s.heap v d as) (hlen : its.size = ds.length) (hu : A.units + 66 < cLine)
    (rmono : ∀ {h' : Heap} {v : Value} {d : Dt} {as : List Addr}, (∀ b o, s.heap.get? b = some o → h'.get? b = some o) → Reads s.heap v d as → Reads h' v d as)
    (h : wpAny (model prog w) A.in1 (pyIter x) (fun it s₂ => ∃ I fp wr St, it = .ref I ∧ Walks prog w A.in1 I fp wr its.size (fun i v => its[i]? = some v) St ∧ St 0 s₂.heap ∧ (∀ b ∈ fp, b < s₂.heap.objs.size) ∧ (∀ b ∈ wr, s.heap.get? b = none) ∧ s.heap.objs.size ≤ s₂.heap.objs.size ∧ (∀ b o, s.heap.get? b = some o → s₂.heap.get? b = some o) ∧
      ∀ v h' tk, Itm s.heap its ds v r → (∀ b o, s.heap.get? b = some o → h'.get? b = some o) → Q v { s₂ with heap := h', toks := tk }) E s) :
    wpAny (model prog w) A (call (.builtin "min") [x]) Q E s := by
  have hname : (toString "min" ++ toString ".loop" : String) = "min.loop" := by decide
  subst hds
  refine call_function_tree PySem.F.kind_min PySem.F.plain_min PySem.F.entry_min (PySem.F.args_min1 _) ?_
  show wpAny _ A.in1 (Builtin.Builtins.bindParams "min" ["key", "default"] 0 ⟨[], []⟩ >>= _) _ _ s
  refine wpAny_bind (wpAny_of_eq (show Builtin.Builtins.bindParams "min" ["key", "default"] 0 ⟨[], []⟩ = pure [none, none] from rfl) ?_)
  refine wpAny_bind (wpAny_pure ?_)
  refine wpAny_bind (wpAny_mono h (fun it s₂ h₂ => ?_) fun _ _ e => e)
  obtain ⟨I, fp, wr, St, rfl, W, hst, hfp, hwr, hsz, hold, hQ⟩ := h₂
  refine wpAny_bind (wpAny_newObj_type ?_)
  have hSf : s₂.heap.objs.size ∉ fp := fun hm => Nat.lt_irrefl _ (hfp _ hm)
  have hSw : s₂.heap.objs.size ∉ wr := fun hm => hSf (W.sub _ hm)
  have hS0 : s.heap.get? s₂.heap.objs.size = none := by
    cases q : s.heap.get? s₂.heap.objs.size with
    | none => rfl
    | some o => exact absurd (Heap.lt_size q) (Nat.not_lt.mpr hsz)
  have away : ∀ b o, s.heap.get? b = some o → b ∉ wr ∧ b ≠ s₂.heap.objs.size := fun b o e => ⟨fun hm => (by rw [hwr b hm] at e; cases e), fun z => (by rw [z, hS0] at e; cases e)⟩
  rw [hname]
  refine wpAny_pure ⟨plainId_quiet PySem.F.plain_min_loop _, ?_⟩
  -- the first turn
  have hn : 0 < its.size := by rw [hlen]; exact Nat.succ_pos _
  have hst0 := W.frame _ _ _ hst fun b _ o e => Heap.get?_push_of_some { cls := .type "list", data := .seq #[] 0 } e
  refine codeAny_builtin PySem.F.entry_min_loop ?_
  rw [Around.under_plainId PySem.F.plain_min_loop _]
  have hS : (s₂.heap.push { cls := .type "list", data := .seq #[] 0 }).get? s₂.heap.objs.size = some { cls := .type "list", dict := none, data := .seq #[] 0, slots := #[] } := Heap.get?_push_size _ rfl
  show wpAny _ A.in1 (seqItems? (.ref s₂.heap.objs.size) >>= _) _ _ _
  refine wpAny_bind (wpAny_seqItems hS rfl ?_)
  show wpAny _ A.in1 (tryCatch (pyNext (.ref I)) _ >>= _) _ _ _
  refine wpAny_bind (wpAny_tryCatch (W.item 0 _ _ _ hn hst0 fun v h' tk hP hst' kept => ?_))
  have hS' := kept _ _ hSw hS
  have h0' : ∀ b o, s.heap.get? b = some o → h'.get? b = some o := fun b o e => kept b o (away b o e).1 (Heap.get?_push_of_some _ (hold b o e))
  show wpAny _ A.in1 (updateSeq s₂.heap.objs.size (fun _ => #[v, v]) >>= _) _ _ _
  refine wpAny_bind ?_
  refine wpAny_updateSeq hS' rfl ?_
  rw [hname]
  refine wpAny_pure ⟨plainId_quiet PySem.F.plain_min_loop _, min_turns (h0 := s.heap) W hwr hr hlen hu rmono s₂.heap.objs.size hSf hS0 _ 0 _ v d0 r _ rfl hn (W.frame _ _ _ hst' fun b hbf o e => ?_) (fun b o e => ?_) ⟨0, hP, rfl⟩ hbest (Heap.get?_update_self _ hS' rfl) fun v' h'' tk'' hP' kept' => hQ v' h'' tk'' hP' kept'⟩
  · exact (Heap.get?_update_other _ _ (fun h : s₂.heap.objs.size = b => hSf (by rw [h]; exact hbf))).trans e
  · exact (Heap.get?_update_other _ _ (Ne.symm (away b o e).2)).trans (h0' b o e)
end

/-! ### max -/
section
variable {prog : Program} {w : World} {A : Around} {R : Result → Shared → Prop} {I : Addr} {fp wr : List Addr} {St : Nat → Heap → Prop} {h0 : Heap} {its : Array Value} {ds : List Dt}
theorem max_turns (W : Walks prog w A.in1 I fp wr its.size (fun i v => its[i]? = some v) St) (hwr : ∀ b ∈ wr, h0.get? b = none) (hr : ∀ (i : Nat) v, its[i]? = some v → ∃ d as, ds[i]? = some d ∧ Reads h0 v d as) (hlen : its.size = ds.length) (hu : A.units + 66 < cLine)
    (rmono : ∀ {h' : Heap} {v : Value} {d : Dt} {as : List Addr}, (∀ b o, h0.get? b = some o → h'.get? b = some o) → Reads h0 v d as → Reads h' v d as) (S : Addr) (hSf : S ∉ fp) (hS0 : h0.get? S = none) :
    ∀ (k j : Nat) (s : Shared) (vb : Value) (db r : Dt) (c : Nat), its.size - (j + 1) = k → j + 1 ≤ its.size → St (j + 1) s.heap → (∀ b o, h0.get? b = some o → s.heap.get? b = some o) → Itm h0 its ds vb db → bestD .Gt db (ds.drop (j + 1)) = some r →
    s.heap.get? S = some { cls := .type "list", dict := none, data := .seq #[vb, vb] c, slots := #[] } →
    (∀ v h' tk, Itm h0 its ds v r → (∀ b o, h0.get? b = some o → h'.get? b = some o) → R (.ok (.ret v)) { s with heap := h', toks := tk }) →
    codeAny (model prog w) A (.builtin "max.loop" ⟨[.ref I, .none, .ref S], []⟩) R s := by
  have hSw : S ∉ wr := fun h => hSf (W.sub _ h)
  have away : ∀ b o, h0.get? b = some o → b ∉ wr ∧ b ≠ S := fun b o e => ⟨fun hm => (by rw [hwr b hm] at e; cases e), fun z => (by rw [z, hS0] at e; cases e)⟩
  have hname : (toString "max" ++ toString ".loop" : String) = "max.loop" := by decide
  intro k
  induction k with
  | zero =>
    intro j s vb db r c hk hj hst h0s hPb hbest hS hR
    have hin : j + 1 = its.size := by omega
    rw [List.drop_of_length_le (by omega)] at hbest
    cases hbest
    refine codeAny_builtin PySem.F.entry_max_loop ?_
    rw [Around.under_plainId PySem.F.plain_max_loop _]
    show wpAny _ A.in1 (seqItems? (.ref S) >>= _) _ _ s
    refine wpAny_bind (wpAny_seqItems hS rfl ?_)
    show wpAny _ A.in1 (tryCatch (pyNext (.ref I)) _ >>= _) _ _ s
    refine wpAny_bind (wpAny_tryCatch (W.done s _ _ (hin ▸ hst) fun h' tk kept => ?_))
    have hS' := kept S _ hSw hS
    show wpAny _ A.in1 (updateSeq S (fun _ => #[]) >>= _) _ _ _
    refine wpAny_bind ?_
    refine wpAny_updateSeq hS' rfl (wpAny_bind (wpAny_letGo (wpAny_pure ?_)))
    exact hR vb _ tk hPb fun b o e => (Heap.get?_update_other _ _ (Ne.symm (away b o e).2)).trans (kept b o (away b o e).1 (h0s b o e))
  | succ k ih =>
    intro j s vb db r c hk hj hst h0s hPb hbest hS hR
    have hlt : j + 1 < its.size := by omega
    refine codeAny_builtin PySem.F.entry_max_loop ?_
    rw [Around.under_plainId PySem.F.plain_max_loop _]
    show wpAny _ A.in1 (seqItems? (.ref S) >>= _) _ _ s
    refine wpAny_bind (wpAny_seqItems hS rfl ?_)
    show wpAny _ A.in1 (tryCatch (pyNext (.ref I)) _ >>= _) _ _ s
    refine wpAny_bind (wpAny_tryCatch (W.item (j + 1) s _ _ hlt hst fun v h' tk hP hst' kept => ?_))
    have hS' := kept S _ hSw hS
    have h0' : ∀ b o, h0.get? b = some o → h'.get? b = some o := fun b o e => kept b o (away b o e).1 (h0s b o e)
    obtain ⟨dv, av, hdv, rv⟩ := hr _ _ hP
    obtain ⟨ib, hvb, hdb⟩ := hPb
    obtain ⟨db', ab, hdb', rb⟩ := hr _ _ hvb
    rw [hdb] at hdb'
    cases hdb'
    have hlt2 : j + 1 < ds.length := by omega
    rw [List.drop_eq_getElem_cons hlt2] at hbest
    have hdv' : ds[j + 1] = dv := by rw [List.getElem?_eq_getElem hlt2] at hdv; exact Option.some.inj hdv
    rw [hdv'] at hbest
    simp only [bestD, Option.bind_eq_some_iff] at hbest
    obtain ⟨bt, hbt, hbest⟩ := hbest
    have cmp := rc_ordD (A := A.in1) (s := { s with heap := h', toks := tk }) (o := .Gt) rfl hbt (rmono h0' rv) (rmono h0' rb) (by show A.units + 1 + 64 < cLine; omega) prog w
    show wpAny _ A.in1 (tryCatch (holding [v, v] (richCompare .Gt v vb >>= _)) _ >>= _) _ _ _
    refine wpAny_bind (wpAny_tryCatch (wpAny_holding (wpAny_bind (cmp _ _ ?_))))
    refine wpAny_bind (wpAny_holding (wpAny_truthy_bool ?_))
    refine wpAny_bind (wpAny_letGo (wpAny_pure ?_))
    cases bt with
    | true =>
      simp only [if_true] at hbest ⊢
      refine wpAny_bind ?_
      refine wpAny_updateSeq hS' rfl (wpAny_bind (wpAny_letGo ?_))
      rw [hname]
      refine wpAny_pure ⟨plainId_quiet PySem.F.plain_max_loop _, ih (j + 1) _ v dv r _ (by omega) hlt (W.frame _ _ _ hst' fun b hbf o e => ?_) (fun b o e => ?_) ⟨j + 1, hP, hdv⟩ hbest (Heap.get?_update_self _ hS' rfl) fun v' h'' tk'' hP' kept' => hR v' h'' tk'' hP' kept'⟩
      · exact (Heap.get?_update_other _ _ (fun h : S = b => hSf (by rw [h]; exact hbf))).trans e
      · exact (Heap.get?_update_other _ _ (Ne.symm (away b o e).2)).trans (h0' b o e)
    | false =>
      simp only [Bool.false_eq_true, if_false] at hbest ⊢
      refine wpAny_bind (wpAny_letGo ?_)
      rw [hname]
      exact wpAny_pure ⟨plainId_quiet PySem.F.plain_max_loop _, ih (j + 1) _ vb db r c (by omega) hlt hst' h0' ⟨ib, hvb, hdb⟩ hbest hS' fun v' h'' tk'' hP' kept' => hR v' h'' tk'' hP' kept'⟩
theorem max_data {E : Value → Shared → Prop} {s : Shared} {x : Value} {d0 r : Dt} {dr : List Dt} {Q : Value → Shared → Prop} (hds : ds = d0 :: dr) (hbest : bestD .Gt d0 dr = some r) (hr : ∀ (i : Nat) v, its[i]? = some v → ∃ d as, ds[i]? = some d ∧ Reads s.heap v d as) (hlen : its.size = ds.length) (hu : A.units + 66 < cLine)
    (rmono : ∀ {h' : Heap} {v : Value} {d : Dt} {as : List Addr}, (∀ b o, s.heap.get? b = some o → h'.get? b = some o) → Reads s.heap v d as → Reads h' v d as)
    (h : wpAny (model prog w) A.in1 (pyIter x) (fun it s₂ => ∃ I fp wr St, it = .ref I ∧ Walks prog w A.in1 I fp wr its.size (fun i v => its[i]? = some v) St ∧ St 0 s₂.heap ∧ (∀ b ∈ fp, b < s₂.heap.objs.size) ∧ (∀ b ∈ wr, s.heap.get? b = none) ∧ s.heap.objs.size ≤ s₂.heap.objs.size ∧ (∀ b o, s.heap.get? b = some o → s₂.heap.get? b = some o) ∧
      ∀ v h' tk, Itm s.heap its ds v r → (∀ b o, s.heap.get? b = some o → h'.get? b = some o) → Q v { s₂ with heap := h', toks := tk }) E s) :
    wpAny (model prog w) A (call (.builtin "max") [x]) Q E s := by
  have hname : (toString "max" ++ toString ".loop" : String) = "max.loop" := by decide
  subst hds
  refine call_function_tree PySem.F.kind_max PySem.F.plain_max PySem.F.entry_max (PySem.F.args_max1 _) ?_
  show wpAny _ A.in1 (Builtin.Builtins.bindParams "max" ["key", "default"] 0 ⟨[], []⟩ >>= _) _ _ s
  refine wpAny_bind (wpAny_of_eq (show Builtin.Builtins.bindParams "max" ["key", "default"] 0 ⟨[], []⟩ = pure [none, none] from rfl) ?_)
  refine wpAny_bind (wpAny_pure ?_)
  refine wpAny_bind (wpAny_mono h (fun it s₂ h₂ => ?_) fun _ _ e => e)
  obtain ⟨I, fp, wr, St, rfl, W, hst, hfp, hwr, hsz, hold, hQ⟩ := h₂
  refine wpAny_bind (wpAny_newObj_type ?_)
  have hSf : s₂.heap.objs.size ∉ fp := fun hm => Nat.lt_irrefl _ (hfp _ hm)
  have hSw : s₂.heap.objs.size ∉ wr := fun hm => hSf (W.sub _ hm)
  have hS0 : s.heap.get? s₂.heap.objs.size = none := by
    cases q : s.heap.get? s₂.heap.objs.size with
    | none => rfl
    | some o => exact absurd (Heap.lt_size q) (Nat.not_lt.mpr hsz)
  have away : ∀ b o, s.heap.get? b = some o → b ∉ wr ∧ b ≠ s₂.heap.objs.size := fun b o e => ⟨fun hm => (by rw [hwr b hm] at e; cases e), fun z => (by rw [z, hS0] at e; cases e)⟩
  rw [hname]
  refine wpAny_pure ⟨plainId_quiet PySem.F.plain_max_loop _, ?_⟩
  -- the first turn
  have hn : 0 < its.size := by rw [hlen]; exact Nat.succ_pos _
  have hst0 := W.frame _ _ _ hst fun b _ o e => Heap.get?_push_of_some { cls := .type "list", data := .seq #[] 0 } e
  refine codeAny_builtin PySem.F.entry_max_loop ?_
  rw [Around.under_plainId PySem.F.plain_max_loop _]
  have hS : (s₂.heap.push { cls := .type "list", data := .seq #[] 0 }).get? s₂.heap.objs.size = some { cls := .type "list", dict := none, data := .seq #[] 0, slots := #[] } := Heap.get?_push_size _ rfl
  show wpAny _ A.in1 (seqItems? (.ref s₂.heap.objs.size) >>= _) _ _ _
  refine wpAny_bind (wpAny_seqItems hS rfl ?_)
  show wpAny _ A.in1 (tryCatch (pyNext (.ref I)) _ >>= _) _ _ _
  refine wpAny_bind (wpAny_tryCatch (W.item 0 _ _ _ hn hst0 fun v h' tk hP hst' kept => ?_))
  have hS' := kept _ _ hSw hS
  have h0' : ∀ b o, s.heap.get? b = some o → h'.get? b = some o := fun b o e => kept b o (away b o e).1 (Heap.get?_push_of_some _ (hold b o e))
  show wpAny _ A.in1 (updateSeq s₂.heap.objs.size (fun _ => #[v, v]) >>= _) _ _ _
  refine wpAny_bind ?_
  refine wpAny_updateSeq hS' rfl ?_
  rw [hname]
  refine wpAny_pure ⟨plainId_quiet PySem.F.plain_max_loop _, max_turns (h0 := s.heap) W hwr hr hlen hu rmono s₂.heap.objs.size hSf hS0 _ 0 _ v d0 r _ rfl hn (W.frame _ _ _ hst' fun b hbf o e => ?_) (fun b o e => ?_) ⟨0, hP, rfl⟩ hbest (Heap.get?_update_self _ hS' rfl) fun v' h'' tk'' hP' kept' => hQ v' h'' tk'' hP' kept'⟩
  · exact (Heap.get?_update_other _ _ (fun h : s₂.heap.objs.size = b => hSf (by rw [h]; exact hbf))).trans e
  · exact (Heap.get?_update_other _ _ (Ne.symm (away b o e).2)).trans (h0' b o e)
end
end VL


set_option Elab.async false
set_option linter.all false
set_option maxRecDepth 100000
set_option maxHeartbeats 1000000
/-! VL3: operations, by values. -/
namespace VL
open PySem PySem.Spec PyProof.Rows L2

def Vw (K : PySem.W.Frag) (H : Hp) (v : V) (d : Dt) : Prop := Sh K H v d ∨ ∃ a xs ds, v = .ref a ∧ d = .list ds ∧ H a = some (.lst xs) ∧ ShA K H xs ds
section
variable {K : PySem.W.Frag} {H H' : Hp} {v : V} {d : Dt}
theorem Vw.int {i : Int} (h : Vw K H v (.int i)) : v = .int i := by
  rcases h with h | ⟨a, xs, ds, _, h, _⟩
  · cases h; rfl
  · cases h
theorem Vw.bool {i : Bool} (h : Vw K H v (.bool i)) : v = .bl i := by
  rcases h with h | ⟨a, xs, ds, _, h, _⟩
  · cases h; rfl
  · cases h
theorem Vw.none (h : Vw K H v .none) : v = .non := by
  rcases h with h | ⟨a, xs, ds, _, h, _⟩
  · cases h; rfl
  · cases h
theorem Vw.str {x : Str} (h : Vw K H v (.str x)) : v = .str x := by
  rcases h with h | ⟨a, xs, ds, _, h, _⟩
  · cases h; rfl
  · cases h
theorem Vw.lst {ds : List Dt} (h : Vw K H v (.list ds)) : ∃ a xs, v = .ref a ∧ Rd H a (.lst xs) ∧ ShA K H xs ds := by
  rcases h with h | ⟨a, xs, ds', rfl, h, e, s⟩
  · cases h with | lst e s => exact ⟨_, _, rfl, e.rd, s⟩
  · cases h; exact ⟨a, xs, rfl, .inl e, s⟩
theorem Vw.tup {ds : List Dt} (h : Vw K H v (.tuple ds)) : ∃ a xs, v = .ref a ∧ SqT K H a xs ∧ ShA K H xs ds := by
  rcases h with h | ⟨a, xs, ds', rfl, h, e, s⟩
  · cases h with | tup e s => exact ⟨_, _, rfl, e.sq, s⟩
  · cases h
theorem Vw.tupF {ds : List Dt} (h : Vw K H v (.tuple ds)) : ∃ a xs, v = .ref a ∧ FzT K H a xs ∧ ShA K H xs ds := by
  rcases h with h | ⟨a, xs, ds', rfl, h, e, s⟩
  · cases h with | tup e s => exact ⟨_, _, rfl, e, s⟩
  · cases h
theorem Vw.dct {ds : List (Dt × Dt)} (h : Vw K H v (.dict ds)) : ∃ a o, v = .ref a ∧ ((∃ kvs, H a = some (.frz o (.dK kvs)) ∧ ShK K H kvs ds) ∨ ∃ kvs, H a = some (.frz o (.dT kvs)) ∧ ShT K H kvs ds) := by
  rcases h with h | ⟨a, xs, ds', rfl, h, e, s⟩
  · cases h with
    | dct e s => exact ⟨_, _, rfl, .inl ⟨_, e, s⟩⟩
    | dcT e s => exact ⟨_, _, rfl, .inr ⟨_, e, s⟩⟩
  · cases h
theorem Vw.dp (h : Vw K H v d) (c : d.canLay0 = true) : Dp K H v d := by
  rcases h with h | ⟨a, xs, ds, rfl, rfl, e, s⟩
  · exact Sh.dp h (.inr trivial) c
  · exact .lst (.inl (.inl e)) (ShA.dp s (by simpa [PyData.canLay0] using c))
theorem Vw.mono (i : Same H H') (h : Vw K H v d) : Vw K H' v d := by
  rcases h with h | ⟨a, xs, ds, h1, h2, e, s⟩
  · exact .inl (h.mono (Im.of i))
  · exact .inr ⟨a, xs, ds, h1, h2, i _ _ e, s.mono (Im.of i)⟩
/-- a new value -/
def New (K : PySem.W.Frag) (H : Hp) (Q : VK) (t : Ty) (d : Dt) : Prop := ∀ v H' A, Same H H' → Rep K H' t v d A → (∀ a ∈ A, H a = none) → Q v H'
variable {Q : VK}
theorem New.val (n : New K H Q .sh d) (h : Sh K H v d) : Q v H := n v H [] (Same.refl H) (.sh h) (fun _ z => by cases z)
theorem same_upd {p : Addr} {o : HO} (h : H p = none) : Same H (upd H p o) := fun b u e => by rw [upd_ne (ne_of_none e h)]; exact e
theorem New.lst {ds : List Dt} {xs : List V} {p : Addr} (n : New K H Q (.ls .sh) (.list ds)) (h : ShA K H xs ds) (hp : H p = none) : Q (.ref p) (upd H p (.lst xs)) :=
  n _ _ [p] (same_upd hp) (.ls upd_same (RepA.of_sh (h.mono (Im.of (same_upd hp)))) (by simp)) (fun a z => by have e : a = p := by simpa using z
                                                                                                              subst e; exact hp)
theorem New.tup {ds : List Dt} {xs : List V} {p : Addr} (n : New K H Q .sh (.tuple ds)) (h : ShA K H xs ds) (hp : H p = none) : Q (.ref p) (upd H p (.tup xs)) :=
  n _ _ [] (same_upd hp) (.sh (.tup upd_same (h.mono (Im.of (same_upd hp))))) (fun a z => by cases z)
end
def tyD : Dt → Ty
  | .list _ => .ls .sh
  | _ => .sh

section
variable {X : Cx} {pins : List (Addr × Obj)} {σ : L2.St} {H : Hp} {s : Shared} {l : Addr} {xs : List V}
theorem rdL (I : Inv X pins σ H s) (h : Rd H l (.lst xs)) : xs.length ≤ sizeLine ∧ ∃ (its : List Value) (n : Nat), Vals xs its ∧ xs.length = its.length ∧ s.heap.get? l = some { cls := .type "list", data := .seq its.toArray n } := by
  obtain ⟨z, its, n, r, e⟩ := h.ok I.hok
  exact ⟨z, its, n, r, r.length, e⟩
theorem op_catL : OpR X (binaryOp .Add) (fun x y H Q => ∃ l b xs zs, x = .ref l ∧ y = .ref b ∧ Rd H l (.lst xs) ∧ Rd H b (.lst zs) ∧ xs.length + zs.length ≤ sizeLine ∧ ∀ p, H p = none → Q (.ref p) (upd H p (.lst (xs ++ zs)))) := by
  intro pins s σ H x y v u Q I rx ry h
  obtain ⟨l, b, xs, zs, rfl, rfl, hH, hB, hz, q⟩ := h
  cases rx
  cases ry
  obtain ⟨z, its, n, r, hl, e⟩ := rdL I hH
  obtain ⟨z2, its2, n2, r2, hl2, e2⟩ := rdL I hB
  refine PySem.P.add_list e e2 ?_ (by rw [List.size_toArray, List.size_toArray]; omega)
  have ea : its.toArray ++ its2.toArray = (its ++ its2).toArray := by simp
  rw [ea]
  exact ⟨.ref _, _, I.lnew (t' := s.toks) (r.append r2) (by rw [List.length_append]; omega), rfl, q _ I.fresh⟩
theorem op_repL : OpR X (binaryOp .Mult) (fun x y H Q => ∃ l k xs, x = .ref l ∧ y = .int k ∧ Rd H l (.lst xs) ∧ -(2 ^ 63) ≤ k ∧ k < 2 ^ 63 ∧ xs.length * k.toNat ≤ sizeLine ∧
    ∀ p, H p = none → Q (.ref p) (upd H p (.lst (List.replicate k.toNat xs).flatten))) := by
  intro pins s σ H x y v u Q I rx ry h
  obtain ⟨l, k, xs, rfl, rfl, hH, h1, h2, hz, q⟩ := h
  cases rx
  obtain ⟨t, rfl⟩ := ry
  obtain ⟨z, its, n, r, hl, e⟩ := rdL I hH
  have hlen : its.toArray.size * k.toNat ≤ sizeLine := by rw [List.size_toArray, ← hl]; exact hz
  have hcap : ¬ its.toArray.size * k.toNat > (2 ^ 63 - 1) / 8 := by
    have : (sizeLine : Nat) ≤ (2 ^ 63 - 1) / 8 := by decide
    omega
  have hfit : ¬ (!Builtin.List.listFitsIndex k) = true := by
    rw [fitsIndex_both h1 h2]
    exact Bool.false_ne_true
  have hlong : ¬ Builtin.List.listTooLong (its.toArray.size * k.toNat) = true := by
    rw [notLongL hlen]
    exact Bool.false_ne_true
  have hnew : List.foldl (fun x1 x2 => x1 ++ x2) #[] (List.replicate (if its.toArray.isEmpty = true then 0 else k.toNat) its.toArray) = (List.replicate k.toNat its).flatten.toArray := by
    have f0 : ∀ m : Nat, List.foldl (fun x1 x2 => x1 ++ x2) #[] (List.replicate m its.toArray) = (List.replicate m its).flatten.toArray := fun m => by
      have := foldl_rep its m []
      rw [List.nil_append] at this
      exact this
    rw [f0]
    cases its with
    | nil => simp
    | cons a r' => rw [if_neg (by simp)]
  refine wpAny_binaryOp_repeat_ref (T := "list") (U := "int") (by decide) ⟨_, e, rfl⟩ (fun s' => typeIs_int s' k t) noFill_list_mul F.fills_int_mul F.slot_int_rmul repeat_list F.slot_int_index.lookup
    (call_meets F.slot_int_rmul (typeIs_int s k t) F.entry_int_rmul (F.args_int_rmul_2 _ _) (int___rmul___int_list k t l its.toArray n)
      ⟨e, rfl, ⟨_, e, rfl⟩, call_meets F.slot_list_mul ⟨_, e, rfl⟩ F.entry_list_mul (F.args_list_mul_2 _ _) (AutoListH.list___mul___list_int_3 l its.toArray n k t hfit hcap hlong) ⟨e, ?_⟩⟩)
  rw [hnew]
  exact ⟨.ref _, _, I.lnew (t' := s.toks) (r.rep k.toNat) (by rw [lm_len_rep_flat, Nat.mul_comm]; exact hz), rfl, q _ I.fresh⟩
end

section
variable {X : Cx}
def rB (K : PySem.W.Frag) (o : Operator) : R2 := fun x y H Q => ∃ d1 d2 d, Vw K H x d1 ∧ Vw K H y d2 ∧ opB o d1 d2 = some d ∧ New K H Q (tyD d) d
theorem opB_ok (o : Operator) : OpR X (binaryOp o) (rB X.K o) := by
  intro pins s σ H x y v u Q I rx ry h
  obtain ⟨d1, d2, d, h1, h2, e, n⟩ := h
  unfold opB at e
  split at e
  · cases e; cases h1.int; cases h2.int
    exact op_add pins s σ H _ _ v u Q I rx ry ⟨_, _, rfl, rfl, n.val (.int _)⟩
  · unfold seqCat at e
    split at e
    · rename_i hl
      cases e
      obtain ⟨a, xs, rfl, r1, s1⟩ := h1.lst
      obtain ⟨b, ys, rfl, r2, s2⟩ := h2.lst
      have l1 := s1.length
      have l2 := s2.length
      exact op_catL pins s σ H _ _ v u Q I rx ry ⟨a, b, xs, ys, rfl, rfl, r1, r2, by omega, fun p hp => n.lst (s1.append s2) hp⟩
    · cases e
  · unfold seqCat at e
    split at e
    · rename_i hl
      cases e
      obtain ⟨a, xs, rfl, r1, s1⟩ := h1.tupF
      obtain ⟨b, ys, rfl, r2, s2⟩ := h2.tupF
      have l1 := s1.length
      have l2 := s2.length
      refine op_catA pins s σ H _ _ v u Q I rx ry ⟨a, b, xs, ys, rfl, rfl, r1.sq, r2.sq, by omega, fun z => ?_, fun z z2 => ?_, fun _ _ p hp => n.tup (s1.append s2) hp⟩
      · subst z; cases s1; exact n.val (.tup r2 s2)
      · subst z2; cases s2; rw [List.append_nil] at n; exact n.val (.tup r1 s1)
    · cases e
  · cases e; cases h1.int; cases h2.int
    exact op_sub pins s σ H _ _ v u Q I rx ry ⟨_, _, rfl, rfl, n.val (.int _)⟩
  · split at e
    · rename_i hf
      cases e; cases h1.int; cases h2.int
      refine op_mul pins s σ H _ _ v u Q I rx ry ⟨_, _, rfl, rfl, ?_, n.val (.int _)⟩
      unfold fitsMul at hf
      simpa [CMul, Bool.or_eq_true, Bool.and_eq_true, decide_eq_true_eq] using hf
    · cases e
  · unfold seqRep at e
    split at e
    · rename_i hl
      cases e
      obtain ⟨a, xs, rfl, r1, s1⟩ := h1.lst
      cases h2.int
      have l1 := s1.length
      exact op_repL pins s σ H _ _ v u Q I rx ry ⟨a, _, xs, rfl, rfl, r1, hl.1, hl.2.1, by rw [l1]; exact hl.2.2, fun p hp => n.lst (s1.rep _) hp⟩
    · cases e
  · split at e
    · rename_i hl
      cases e
      obtain ⟨a, xs, rfl, r1, s1⟩ := h1.tup
      cases h2.int
      have l1 := s1.length
      refine op_repT pins s σ H _ _ v u Q I rx ry ⟨a, _, xs, rfl, rfl, r1, fun z => ?_, hl.2.1, hl.2.2.1, by omega, fun p hp => n.tup (s1.rep _) hp⟩
      subst z; cases s1; exact hl.1 rfl
    · cases e
  · split at e
    · rename_i hl
      cases e; cases h1.int; cases h2.int
      exact op_fdivN pins s σ H _ _ v u Q I rx ry ⟨_, _, rfl, rfl, hl, n.val (.int _)⟩
    · cases e
  · split at e
    · rename_i hl
      cases e; cases h1.int; cases h2.int
      exact op_modN pins s σ H _ _ v u Q I rx ry ⟨_, _, rfl, rfl, hl, n.val (.int _)⟩
    · cases e
  · split at e
    · rename_i hl
      cases e; cases h1.int; cases h2.int
      exact op_pow pins s σ H _ _ v u Q I rx ry ⟨_, _, rfl, rfl, hl, n.val (.int _)⟩
    · cases e
  · cases e
end

/-! ### comparisons -/
section
variable {X : Cx}
def rC (K : PySem.W.Frag) (o : CmpOp) : R2 := fun x y H Q => ∃ d1 d2 b, Vw K H x d1 ∧ Vw K H y d2 ∧ opC o d1 d2 = some b ∧ Q (.bl b) H
theorem Vw.isV {K : PySem.W.Frag} {H : Hp} {v : V} {d : Dt} (h : Vw K H v d) : ∃ t : Bool, (d = .none → v = .non) ∧ (∀ b, d = .bool b → v = .bl b) ∧ (d ≠ .none → v ≠ .non) ∧ (∀ b, d ≠ .bool b → v ≠ .bl b) := by
  refine ⟨true, fun e => by subst e; exact h.none, fun b e => by subst e; exact h.bool, fun n e => ?_, fun b n e => ?_⟩
  · subst e
    rcases h with h | ⟨a, xs, ds, z, _⟩
    · cases h; exact n rfl
    · cases z
  · subst e
    rcases h with h | ⟨a, xs, ds, z, _⟩
    · cases h; exact n rfl
    · cases z
/-- is a bool -/
theorem is_blV {M : Model} {A : Around} {E : Value → Shared → Prop} {s : Shared} {Q : Value → Shared → Prop} {v : V} {u : Value} {b : Bool} (r : RelV v u) (h : Q (.bool (decide (v = .bl b))) s) : wpAny M A (compareOp .Is u (.bool b)) Q E s := by
  have pl : plainIs u (.bool b) = true := by
    cases v with
    | non => cases r; rfl
    | bl c => cases r; rfl
    | int i => obtain ⟨t, rfl⟩ := r; rfl
    | str i => obtain ⟨t, rfl⟩ := r; rfl
    | byt i => obtain ⟨t, rfl⟩ := r; rfl
    | flt i => obtain ⟨t, rfl⟩ := r; rfl
    | ref a => cases r; rfl
    | ty n => cases r; rfl
  by_cases e : v = .bl b
  · subst e
    cases r
    exact wpAny_is_self rfl (by simpa using h)
  · refine wpAny_is_other pl (fun z => e ?_) (by rw [decide_eq_false e] at h; exact h)
    subst z
    exact r.inj rfl
theorem isNot_blV {M : Model} {A : Around} {E : Value → Shared → Prop} {s : Shared} {Q : Value → Shared → Prop} {v : V} {u : Value} {b : Bool} (r : RelV v u) (h : Q (.bool (!decide (v = .bl b))) s) : wpAny M A (compareOp .IsNot u (.bool b)) Q E s := by
  have pl : plainIs u (.bool b) = true := by
    cases v with
    | non => cases r; rfl
    | bl c => cases r; rfl
    | int i => obtain ⟨t, rfl⟩ := r; rfl
    | str i => obtain ⟨t, rfl⟩ := r; rfl
    | byt i => obtain ⟨t, rfl⟩ := r; rfl
    | flt i => obtain ⟨t, rfl⟩ := r; rfl
    | ref a => cases r; rfl
    | ty n => cases r; rfl
  by_cases e : v = .bl b
  · subst e
    cases r
    exact wpAny_isNot_self rfl (by simpa using h)
  · refine wpAny_isNot_other pl (fun z => e ?_) (by rw [decide_eq_false e] at h; exact h)
    subst z
    exact r.inj rfl
theorem isD_non {d : Dt} {b : Bool} (e : isD d .none = some b) {K : PySem.W.Frag} {H : Hp} {v : V} (h : Vw K H v d) : b = decide (v = .non) := by
  obtain ⟨_, h1, _, h3, _⟩ := h.isV
  cases d <;> simp only [isD, Option.some.injEq] at e <;> subst e
  · rw [h1 rfl]; rfl
  all_goals exact (decide_eq_false (h3 (by intro z; cases z))).symm
theorem isD_bl {d : Dt} {b c : Bool} (e : isD d (.bool c) = some b) {K : PySem.W.Frag} {H : Hp} {v : V} (h : Vw K H v d) : b = decide (v = .bl c) := by
  obtain ⟨_, _, h2, _, h4⟩ := h.isV
  cases d <;> simp only [isD, Option.some.injEq] at e <;> subst e
  case bool =>
    rw [h2 _ rfl]
    rename_i k _ _
    cases k <;> cases c <;> rfl
  all_goals exact (decide_eq_false (h4 c (by intro z; cases z))).symm
theorem op_ordD {o : CmpOp} (ho : ordOp o = true) (hu : X.A.units + 65 < cLine) : OpR X (compareOp o) (fun x y H Q => ∃ d1 d2 b, Vw X.K H x d1 ∧ Vw X.K H y d2 ∧ ordD o d1 d2 = some b ∧ Q (.bl b) H) := by
  intro pins s σ H x y v u Q I rx ry h
  obtain ⟨d1, d2, b, h1, h2, e, q⟩ := h
  have hs : SeqAt.shaped d1 = true ∧ SeqAt.shaped d2 = true := by
    unfold ordD at e
    split at e
    · assumption
    · cases e
  obtain ⟨as, r1⟩ := Dp.reads I d1 x v (h1.dp (SeqAt.canLay_of_shaped hs.1)) rx
  obtain ⟨bs, r2⟩ := Dp.reads I d2 y u (h2.dp (SeqAt.canLay_of_shaped hs.2)) ry
  have R := rc_ordD (A := X.A) (s := s) ho e r1 r2 (by omega)
  have z : ∀ o, compareOp o v u = richCompare o v u → wpAny (model X.prog X.w) X.A (richCompare o v u) (EP X pins σ Q) X.xe s → wpAny (model X.prog X.w) X.A (compareOp o v u) (EP X pins σ Q) X.xe s := fun o e h => by rw [e]; exact h
  have y : wpAny (model X.prog X.w) X.A (richCompare o v u) (EP X pins σ Q) X.xe s := R X.prog X.w X.xe (EP X pins σ Q) ⟨.bl b, H, I, rfl, q⟩
  cases o <;> first | exact y | (simp [ordOp] at ho)
theorem opC_ok (o : CmpOp) (hu : X.A.units + 65 < cLine) : OpR X (compareOp o) (rC X.K o) := by
  intro pins s σ H x y v u Q I rx ry h
  obtain ⟨d1, d2, b, h1, h2, e, q⟩ := h
  unfold opC at e
  split at e
  · -- Eq
    unfold eqD at e
    split at e
    · rename_i hs
      cases e
      exact op_eqD (by omega) pins s σ H _ _ v u Q I rx ry ⟨_, _, h1.dp (SeqAt.canLay_of_shaped hs.1), h2.dp (SeqAt.canLay_of_shaped hs.2), hs.1, hs.2, q⟩
    · cases e
  · unfold eqD at e
    split at e
    · rename_i hs
      cases e
      exact op_neD (by omega) pins s σ H _ _ v u Q I rx ry ⟨_, _, h1.dp (SeqAt.canLay_of_shaped hs.1), h2.dp (SeqAt.canLay_of_shaped hs.2), hs.1, hs.2, q⟩
    · cases e
  · exact op_ordD rfl hu pins s σ H _ _ v u Q I rx ry ⟨_, _, b, h1, h2, e, q⟩
  · exact op_ordD rfl hu pins s σ H _ _ v u Q I rx ry ⟨_, _, b, h1, h2, e, q⟩
  · exact op_ordD rfl hu pins s σ H _ _ v u Q I rx ry ⟨_, _, b, h1, h2, e, q⟩
  · exact op_ordD rfl hu pins s σ H _ _ v u Q I rx ry ⟨_, _, b, h1, h2, e, q⟩
  · -- Is
    cases d2 with
    | none =>
      rw [isD_non e h1] at q
      cases h2.none
      exact op_isN pins s σ H _ _ v u Q I rx ry ⟨rfl, q⟩
    | bool c =>
      rw [isD_bl e h1] at q
      cases h2.bool
      cases ry
      exact is_blV rx ⟨.bl _, H, I, rfl, q⟩
    | int _ => simp [isD] at e
    | str _ => simp [isD] at e
    | list _ => simp [isD] at e
    | tuple _ => simp [isD] at e
    | dict _ => simp [isD] at e
  · cases hd : isD d1 d2 with
    | none => rw [hd] at e; cases e
    | some c =>
      rw [hd] at e
      cases e
      cases d2 with
      | none =>
        rw [isD_non hd h1] at q
        cases h2.none
        exact op_notN pins s σ H _ _ v u Q I rx ry ⟨rfl, q⟩
      | bool c =>
        rw [isD_bl hd h1] at q
        cases h2.bool
        cases ry
        exact isNot_blV rx ⟨.bl _, H, I, rfl, q⟩
      | int _ => simp [isD] at hd
      | str _ => simp [isD] at hd
      | list _ => simp [isD] at hd
      | tuple _ => simp [isD] at hd
      | dict _ => simp [isD] at hd
  · unfold inD at e
    split at e
    · rename_i ys hs
      cases e
      have c1 := SeqAt.canLay_of_shaped hs.1
      have c2 := SeqAt.canLay_of_shaped hs.2
      obtain ⟨as, r1⟩ := Dp.reads I _ x v (h1.dp c1) rx
      obtain ⟨bs, r2⟩ := Dp.reads I (.list ys) y u (h2.dp c2) ry
      exact SeqAt.in_list_reads r2 r1 c2 c1 (room_in_shaped hs.1 hu) ⟨.bl _, H, I, rfl, q⟩
    · cases e
  · unfold inD at e
    split at e
    · rename_i ys hs
      cases e
      have c1 := SeqAt.canLay_of_shaped hs.1
      have c2 : PyData.canLayAll0 ys = true := SeqAt.canLay_of_shaped hs.2
      obtain ⟨as, r1⟩ := Dp.reads I _ x v (h1.dp c1) rx
      obtain ⟨bs, r2⟩ := Dp.reads I (.tuple ys) y u (h2.dp c2) ry
      exact SeqAt.in_tuple_reads r2 r1 c2 c1 (room_in_shaped hs.1 hu) ⟨.bl _, H, I, rfl, q⟩
    · cases e
  · unfold inD at e
    split at e
    · rename_i ys hs
      cases e
      have c1 := SeqAt.canLay_of_shaped hs.1
      have c2 := SeqAt.canLay_of_shaped hs.2
      obtain ⟨as, r1⟩ := Dp.reads I _ x v (h1.dp c1) rx
      obtain ⟨bs, r2⟩ := Dp.reads I (.list ys) y u (h2.dp c2) ry
      exact SeqAt.notIn_list_reads r2 r1 c2 c1 (room_in_shaped hs.1 hu) ⟨.bl _, H, I, rfl, q⟩
    · cases e
  · unfold inD at e
    split at e
    · rename_i ys hs
      cases e
      have c1 := SeqAt.canLay_of_shaped hs.1
      have c2 : PyData.canLayAll0 ys = true := SeqAt.canLay_of_shaped hs.2
      obtain ⟨as, r1⟩ := Dp.reads I _ x v (h1.dp c1) rx
      obtain ⟨bs, r2⟩ := Dp.reads I (.tuple ys) y u (h2.dp c2) ry
      exact SeqAt.notIn_tuple_reads r2 r1 c2 c1 (room_in_shaped hs.1 hu) ⟨.bl _, H, I, rfl, q⟩
    · cases e
  · cases e
end

/-! ### items, slices -/
section
variable {X : Cx}
/-- what an item of data of this kind is -/
def itTy : Ty → Ty
  | .ls t => t
  | _ => .sh
/-- readable data: owned, lent, shared -/
def Rv (K : PySem.W.Frag) (H : Hp) (t : Ty) (v : V) (d : Dt) (A : List Addr) : Prop := Rep K H t v d A ∨ (Sh K H v d ∧ A = [])
theorem Rv.mono {K : PySem.W.Frag} {H H' : Hp} {t : Ty} {v : V} {d : Dt} {A : List Addr} (h : Rv K H t v d A) (i : Im H H') (k : ∀ a ∈ A, ∀ o, H a = some o → H' a = some o) : Rv K H' t v d A := by
  rcases h with h | h
  · exact .inl (h.mono i k)
  · exact .inr ⟨h.1.mono i, h.2⟩
theorem Rv.vw {K : PySem.W.Frag} {H : Hp} {t : Ty} {v : V} {d : Dt} {A : List Addr} (h : Rv K H t v d A) (ht : t = .sh ∨ t = .ls .sh) : Vw K H v d := by
  rcases h with h | h
  · cases h with
    | sh s => exact .inl s
    | ls e r n =>
      rcases ht with z | z
      · cases z
      · cases z
        exact .inr ⟨_, _, _, rfl, rfl, e, (RepA.sh r).1⟩
    | ks _ _ => rcases ht with z | z <;> cases z
    | kl _ _ => rcases ht with z | z <;> cases z
  · exact .inl h.1
/-- a sequence, to be read -/
theorem Rv.lst {K : PySem.W.Frag} {H : Hp} {t : Ty} {v : V} {ds : List Dt} {A : List Addr} (h : Rv K H t v (.list ds) A) :
    ∃ a xs, v = .ref a ∧ SqL K H a xs ∧ xs.length = ds.length ∧ ∀ (i : Nat) d, ds[i]? = some d → ∃ w B, xs[i]? = some w ∧ Rv K H (itTy t) w d B ∧ ∀ b ∈ B, b ∈ A := by
  rcases h with h | ⟨h, z⟩
  · cases h with
    | sh s => cases s with | lst e s => exact ⟨_, _, rfl, e.sq, s.length, fun i d hd => let ⟨w, h1, h2⟩ := s.get hd; ⟨w, [], h1, .inl (.sh h2), fun b z => by cases z⟩⟩
    | ls e r n => exact ⟨_, _, rfl, .inl (.inl e), r.length, fun i d hd => let ⟨w, B, h1, h2, h3⟩ := r.get hd; ⟨w, B, h1, .inl h2, fun b z => List.mem_cons_of_mem _ (h3 b z)⟩⟩
    | kl e s => exact ⟨_, _, rfl, .inl (.inl e), s.length, fun i d hd => let ⟨w, h1, h2⟩ := s.get hd; ⟨w, [], h1, .inl (.sh h2), fun b z => by cases z⟩⟩
    | ks e s => exact ⟨_, _, rfl, e.sq, s.length, fun i d hd => let ⟨w, h1, h2⟩ := s.get hd; ⟨w, [], h1, .inl (.sh h2), fun b z => by cases z⟩⟩
  · cases h with | lst e s => exact ⟨_, _, rfl, e.sq, s.length, fun i d hd => let ⟨w, h1, h2⟩ := s.get hd; ⟨w, [], h1, .inr ⟨h2, rfl⟩, fun b z => by cases z⟩⟩
theorem Rv.tup {K : PySem.W.Frag} {H : Hp} {t : Ty} {v : V} {ds : List Dt} {A : List Addr} (h : Rv K H t v (.tuple ds) A) :
    ∃ a xs, v = .ref a ∧ SqT K H a xs ∧ xs.length = ds.length ∧ ∀ (i : Nat) d, ds[i]? = some d → ∃ w, xs[i]? = some w ∧ Sh K H w d := by
  have s : Sh K H v (.tuple ds) := by
    rcases h with h | h
    · cases h with | sh s => exact s
    · exact h.1
  cases s with | tup e s => exact ⟨_, _, rfl, e.sq, s.length, fun i d hd => s.get hd⟩
theorem Rv.int {K : PySem.W.Frag} {H : Hp} {t : Ty} {v : V} {i : Int} {A : List Addr} (h : Rv K H t v (.int i) A) : v = .int i := by
  rcases h with h | h
  · cases h with | sh s => cases s; rfl
  · cases h.1; rfl
theorem atI_len {α β : Type} {xs : List α} {ys : List β} (hl : xs.length = ys.length) {i : Int} {d : β} (h : atI ys i = some d) : ∃ k, ixN xs.length i = some k ∧ ys[k]? = some d := by
  unfold atI at h
  rw [hl]
  cases e : ixN ys.length i with
  | none => rw [e] at h; cases h
  | some k => rw [e] at h; exact ⟨k, rfl, h⟩
def rSub (K : PySem.W.Frag) : R2 := fun x y H Q => ∃ t d1 d2 d A B, Rv K H t x d1 A ∧ Rv K H .sh y d2 B ∧ subD d1 d2 = some d ∧ ∀ w C, Rv K H (itTy t) w d C → (∀ c ∈ C, c ∈ A) → Q w H
/-- a dict's entry, found -/
theorem kD_eqv (k l : Key) : PyData.eqv (kD k) (kD l) = decide (k = l) := by
  cases k <;> cases l <;> simp [kD, PyData.eqv]
  · rw [Bool.beq_eq_decide_eq]
  · rw [Bool.eq_iff_iff]; simp
theorem kDs_eqv : ∀ ks ls : List Key, PyData.eqvAll (ks.map kD) (ls.map kD) = decide (ks = ls)
  | [], [] => by simp [PyData.eqvAll]
  | [], l :: ls => by simp [PyData.eqvAll]
  | k :: ks, [] => by simp [PyData.eqvAll]
  | k :: ks, l :: ls => by
    simp only [List.map_cons, PyData.eqvAll, kD_eqv, kDs_eqv ks ls]
    by_cases h : k = l <;> by_cases h2 : ks = ls <;> simp [h, h2]
theorem kT_eqv (ks ls : List Key) : PyData.eqv (.tuple (ks.map kD)) (.tuple (ls.map kD)) = decide (ks = ls) := by
  rw [PyData.eqv, kDs_eqv]
theorem keyD_kD {d : Dt} (h : keyD d = true) : ∃ k, d = kD k := by
  cases d <;> simp [keyD] at h
  · exact ⟨.inl _, rfl⟩
  · exact ⟨.inr _, rfl⟩
theorem keys_kD : ∀ {ds : List Dt}, ds.all keyD = true → ∃ ks : List Key, ds = ks.map kD
  | [], _ => ⟨[], rfl⟩
  | d :: ds, h => by
    simp only [List.all_cons, Bool.and_eq_true] at h
    obtain ⟨k, rfl⟩ := keyD_kD h.1
    obtain ⟨ks, rfl⟩ := keys_kD h.2
    exact ⟨k :: ks, rfl⟩
theorem keyT_kD {d : Dt} (h : keyT d = true) : ∃ ks : List Key, d = .tuple (ks.map kD) := by
  cases d <;> simp only [keyT] at h <;> try (cases h)
  rename_i ds
  obtain ⟨ks, rfl⟩ := keys_kD h
  exact ⟨ks, rfl⟩
theorem sh_key {K : PySem.W.Frag} {H : Hp} {v : V} {k : Key} (h : Sh K H v (kD k)) : v = kV k := by
  cases k <;> (simp only [kD] at h; cases h; rfl)
theorem sh_keys {K : PySem.W.Frag} {H : Hp} : ∀ {ks : List Key} {vs : List V}, ShA K H vs (ks.map kD) → vs = ks.map kV
  | [], _, h => by cases h; rfl
  | k :: ks, _, h => by
    cases h with | cons h1 h2 => rw [sh_key h1, sh_keys h2]; rfl
theorem sh_keyT {K : PySem.W.Frag} {H : Hp} {v : V} {ks : List Key} (h : Sh K H v (.tuple (ks.map kD))) : ∃ b, v = .ref b ∧ H b = some (.tup (ks.map kV)) := by
  cases h with | tup e s => exact ⟨_, rfl, by rw [sh_keys s] at e; exact e⟩
theorem ShK.get {K : PySem.W.Frag} {H : Hp} {k : Key} {d : Dt} : ∀ {kvs : List (Key × V)} {ds : List (Dt × Dt)}, ShK K H kvs ds → getD_ ds (kD k) = some d → ∃ v, valV kvs k = some v ∧ Sh K H v d
  | _, _, .nil, h => by simp [getD_] at h
  | _, _, .cons (k := k') (v := v) h t, e => by
    unfold getD_ at e
    rw [List.find?_cons] at e
    simp only [kD_eqv] at e
    by_cases hk : k' = k
    · subst hk
      simp only [decide_true, if_true, Option.map_some, Option.some.injEq] at e
      subst e
      exact ⟨v, by simp [valV], h⟩
    · simp only [hk, decide_false] at e
      obtain ⟨w, h1, h2⟩ := ShK.get t e
      exact ⟨w, by rw [← h1]; simp [valV, hk], h2⟩
theorem ShT.get {K : PySem.W.Frag} {H : Hp} {k : List Key} {d : Dt} : ∀ {kvs : List (List Key × V)} {ds : List (Dt × Dt)}, ShT K H kvs ds → getD_ ds (.tuple (k.map kD)) = some d → ∃ v, valV kvs k = some v ∧ Sh K H v d
  | _, _, .nil, h => by simp [getD_] at h
  | _, _, .cons (k := k') (v := v) h t, e => by
    unfold getD_ at e
    rw [List.find?_cons] at e
    simp only [kT_eqv] at e
    by_cases hk : k' = k
    · subst hk
      simp only [decide_true, if_true, Option.map_some, Option.some.injEq] at e
      subst e
      exact ⟨v, by simp [valV], h⟩
    · simp only [hk, decide_false] at e
      obtain ⟨w, h1, h2⟩ := ShT.get t e
      exact ⟨w, by rw [← h1]; simp [valV, hk], h2⟩
theorem keyD_of (k : Key) : keyD (kD k) = true := by cases k <;> rfl
theorem ShK.kinds {K : PySem.W.Frag} {H : Hp} {q : Dt × Dt} : ∀ {kvs : List (Key × V)} {ds : List (Dt × Dt)}, ShK K H kvs ds → q ∈ ds → keyD q.1 = true
  | _, _, .nil, h => by cases h
  | _, _, .cons h t, e => by
    rcases List.mem_cons.mp e with e | e
    · rw [e]; exact keyD_of _
    · exact ShK.kinds t e
theorem ShT.kinds {K : PySem.W.Frag} {H : Hp} {q : Dt × Dt} : ∀ {kvs : List (List Key × V)} {ds : List (Dt × Dt)}, ShT K H kvs ds → q ∈ ds → keyD q.1 = false
  | _, _, .nil, h => by cases h
  | _, _, .cons h t, e => by
    rcases List.mem_cons.mp e with e | e
    · rw [e]; rfl
    · exact ShT.kinds t e
/-- an entry of a frozen dict -/
theorem look_get {K : PySem.W.Frag} {H : Hp} {v y : V} {ds : List (Dt × Dt)} {k d : Dt} (h : Sh K H v (.dict ds)) (hy : Sh K H y k) (e : lookD ds k = some d) : ∃ a w, v = .ref a ∧ DGet H a y (some w) ∧ Sh K H w d := by
  unfold lookD at e
  split at e
  · rename_i hk
    obtain ⟨hk1, hk2⟩ := hk
    rw [List.all_eq_true] at hk2
    have ne : ∃ q, q ∈ ds := by
      cases ds with
      | nil => simp [getD_] at e
      | cons q _ => exact ⟨q, List.mem_cons_self⟩
    obtain ⟨q, hq⟩ := ne
    have hq2 := hk2 q hq
    cases h with
    | @dct a o kvs _ r s =>
      rw [s.kinds hq] at hq2
      have kd : keyD k = true := by simpa using hq2
      obtain ⟨kk, rfl⟩ := keyD_kD kd
      obtain ⟨w, h1, h2⟩ := s.get e
      exact ⟨a, w, rfl, .inl ⟨kvs, kk, .inr ⟨o, r⟩, sh_key hy, h1.symm⟩, h2⟩
    | @dcT a o kvs _ r s =>
      rw [s.kinds hq] at hq2
      have kd : keyD k = false := by simpa using hq2
      rw [kd, Bool.false_or] at hk1
      obtain ⟨kk, rfl⟩ := keyT_kD hk1
      obtain ⟨b, rfl, hb⟩ := sh_keyT hy
      obtain ⟨w, h1, h2⟩ := s.get e
      exact ⟨a, w, rfl, .inr ⟨kvs, kk, b, .inr ⟨o, r⟩, rfl, hb, h1.symm⟩, h2⟩
  · cases e
theorem Rv.dictS {K : PySem.W.Frag} {H : Hp} {t : Ty} {v : V} {ds : List (Dt × Dt)} {A : List Addr} (h1 : Rv K H t v (.dict ds) A) : Sh K H v (.dict ds) := by
  rcases h1 with h1 | h1
  · cases h1 with | sh s => exact s
  · exact h1.1
theorem sub_ok (hu : X.A.units + 1 < cLine) : IxR X (rSub X.K) := by
  intro value slice pins s σ H x y v u Q I rx ry h hs
  obtain ⟨t, d1, d2, d, A, B, h1, h2, e, k⟩ := h
  unfold subD at e
  split at e
  · unfold seqIx at e
    obtain ⟨a, xs, rfl, q, hl, g⟩ := h1.lst
    cases h2.int
    obtain ⟨j, hj, hd⟩ := atI_len hl e
    obtain ⟨w, C, hw, hr, hc⟩ := g j d hd
    exact ix_list value slice pins s σ H _ _ v u Q I rx ry ⟨a, xs, _, w, rfl, rfl, q, by unfold atI; rw [hj]; exact hw, k w C hr hc⟩ hs
  · unfold seqIx at e
    obtain ⟨a, xs, rfl, q, hl, g⟩ := h1.tup
    cases h2.int
    obtain ⟨j, hj, hd⟩ := atI_len hl e
    obtain ⟨w, hw, hr⟩ := g j d hd
    exact ix_tup value slice pins s σ H _ _ v u Q I rx ry ⟨a, xs, _, w, rfl, rfl, q, by unfold atI; rw [hj]; exact hw, k w [] (.inr ⟨hr, rfl⟩) (fun c z => by cases z)⟩ hs
  · have hx := h1.dictS
    have hy : Sh X.K H y d2 := by
      rcases h2 with h2 | h2
      · cases h2 with | sh s => exact s
      · exact h2.1
    obtain ⟨a, w, rfl, g, sw⟩ := look_get hx hy e
    obtain rfl : v = Value.ref a := rx
    exact tail_any (dict_typeIs I g) PySem.F.slot_dict_getitem.lookup (d_getItem hu I g ry fun w' s3 I3 rw' => ⟨w, H, I3, rw', k w [] (.inr ⟨sw, rfl⟩) (fun c z => by cases z)⟩) hs
  · cases e
/-- shared items in a readable sequence -/
def RvS (K : PySem.W.Frag) (H : Hp) (v : V) (d : Dt) : Prop := Vw K H v d ∨ ∃ A, Rep K H .ks v d A
theorem RvS.lst {K : PySem.W.Frag} {H : Hp} {v : V} {ds : List Dt} (h : RvS K H v (.list ds)) : ∃ a xs, v = .ref a ∧ SqL K H a xs ∧ ShA K H xs ds := by
  rcases h with h | ⟨A, h⟩
  · obtain ⟨a, xs, e, r, s⟩ := h.lst
    exact ⟨a, xs, e, .inl r, s⟩
  · cases h with
    | ks e s => exact ⟨_, _, rfl, e.sq, s⟩
    | kl e s => exact ⟨_, _, rfl, .inl (.inl e), s⟩
theorem RvS.tup {K : PySem.W.Frag} {H : Hp} {v : V} {ds : List Dt} (h : RvS K H v (.tuple ds)) : ∃ a xs, v = .ref a ∧ SqT K H a xs ∧ ShA K H xs ds := by
  rcases h with h | ⟨A, h⟩
  · exact h.tup
  · cases h
theorem RvS.tupF {K : PySem.W.Frag} {H : Hp} {v : V} {ds : List Dt} (h : RvS K H v (.tuple ds)) : ∃ a xs, v = .ref a ∧ FzT K H a xs ∧ ShA K H xs ds := by
  rcases h with h | ⟨A, h⟩
  · exact h.tupF
  · cases h
def rSlc (K : PySem.W.Frag) : V → Option Int → Option Int → Hp → VK → Prop := fun x lo hi H Q => ∃ d1 d, RvS K H x d1 ∧ slcD d1 lo hi = some d ∧ New K H Q (tyD d) d
theorem cut_sh {K : PySem.W.Frag} {H : Hp} {xs : List V} {ds : List Dt} (s : ShA K H xs ds) (lo hi : Option Int) : ShA K H (cutV xs lo hi) (cutD ds lo hi) := by
  unfold cutV cutD
  rw [s.length]
  exact (s.drop _).take _
theorem slc_ok : SlR X (rSlc X.K) := by
  intro pins s σ H x v vl vu lo hi sl Q I rx hs pl pu h
  obtain ⟨d1, d, h1, e, n⟩ := h
  unfold slcD at e
  split at e
  · cases e
    obtain ⟨a, xs, rfl, q, z⟩ := h1.lst
    exact sl_list pins s σ H _ v vl vu lo hi sl Q I rx hs pl pu ⟨a, xs, rfl, q, fun p hp => n.lst (cut_sh z lo hi) hp⟩
  · cases e
    obtain ⟨a, xs, rfl, q, z⟩ := h1.tupF
    refine sl_tupA pins s σ H _ v vl vu lo hi sl Q I rx hs pl pu ⟨a, xs, rfl, q.sq, fun w => ?_, fun _ p hp => n.tup (cut_sh z lo hi) hp⟩
    refine n.val (.tup q ?_)
    have c := cut_sh z lo hi
    unfold cutV at c
    rw [w.1, w.2, List.drop_zero, Nat.sub_zero, List.take_length] at c
    exact c
  · cases e
end

/-! ### builtins -/
section
variable {X : Cx}
theorem boolsOf_map : ∀ {ds : List Dt} {bs : List Bool}, boolsOf ds = some bs → ds = bs.map PyData.bool
  | [], bs, h => by simp [boolsOf] at h; subst h; rfl
  | .bool b :: r, bs, h => by
    simp only [boolsOf, Option.map_eq_some_iff] at h
    obtain ⟨c, h1, rfl⟩ := h
    rw [boolsOf_map h1]; rfl
  | .none :: _, _, h => by simp [boolsOf] at h
  | .int _ :: _, _, h => by simp [boolsOf] at h
  | .str _ :: _, _, h => by simp [boolsOf] at h
  | .list _ :: _, _, h => by simp [boolsOf] at h
  | .tuple _ :: _, _, h => by simp [boolsOf] at h
  | .dict _ :: _, _, h => by simp [boolsOf] at h
theorem intsOf_map : ∀ {ds : List Dt} {bs : List Int}, intsOf ds = some bs → ds = bs.map PyData.int
  | [], bs, h => by simp [intsOf] at h; subst h; rfl
  | .int b :: r, bs, h => by
    simp only [intsOf, Option.map_eq_some_iff] at h
    obtain ⟨c, h1, rfl⟩ := h
    rw [intsOf_map h1]; rfl
  | .none :: _, _, h => by simp [intsOf] at h
  | .bool _ :: _, _, h => by simp [intsOf] at h
  | .str _ :: _, _, h => by simp [intsOf] at h
  | .list _ :: _, _, h => by simp [intsOf] at h
  | .tuple _ :: _, _, h => by simp [intsOf] at h
  | .dict _ :: _, _, h => by simp [intsOf] at h
theorem sha_bools {K : PySem.W.Frag} {H : Hp} : ∀ {xs : List V} {bs : List Bool}, ShA K H xs (bs.map PyData.bool) → xs = bs.map V.bl
  | [], [], _ => rfl
  | [], _ :: _, h => by cases h
  | _ :: _, [], h => by cases h
  | x :: xs, b :: bs, .cons h t => by cases h; rw [sha_bools t]; rfl
theorem sha_ints {K : PySem.W.Frag} {H : Hp} : ∀ {xs : List V} {bs : List Int}, ShA K H xs (bs.map PyData.int) → xs = bs.map V.int
  | [], [], _ => rfl
  | [], _ :: _, h => by cases h
  | _ :: _, [], h => by cases h
  | x :: xs, b :: bs, .cons h t => by cases h; rw [sha_ints t]; rfl
theorem ints_sha {K : PySem.W.Frag} {H : Hp} : ∀ bs : List Int, ShA K H (bs.map V.int) (bs.map PyData.int)
  | [] => .nil
  | b :: bs => .cons (.int b) (ints_sha bs)
theorem insInt_perm (x : Int) : ∀ l : List Int, (insInt x l).Perm (x :: l)
  | [] => .refl _
  | y :: r => by
    unfold insInt
    split
    · exact .refl _
    · exact ((insInt_perm x r).cons y).trans (.swap x y r)
theorem sortInts_perm : ∀ l : List Int, (sortInts l).Perm l
  | [] => .refl _
  | x :: r => (insInt_perm x _).trans ((sortInts_perm r).cons x)
theorem insInt_sorted (x : Int) : ∀ l : List Int, l.Pairwise (· ≤ ·) → (insInt x l).Pairwise (· ≤ ·)
  | [], _ => by unfold insInt; exact List.pairwise_singleton _ _
  | y :: r, h => by
    unfold insInt
    have h' := List.pairwise_cons.mp h
    split
    · rename_i hxy
      refine List.pairwise_cons.mpr ⟨fun z hz => ?_, h⟩
      rcases List.mem_cons.mp hz with rfl | hz
      · exact hxy
      · exact Int.le_trans hxy (h'.1 z hz)
    · rename_i hxy
      refine List.pairwise_cons.mpr ⟨fun z hz => ?_, insInt_sorted x r h'.2⟩
      rcases List.mem_cons.mp ((insInt_perm x r).mem_iff.mp hz) with rfl | hz
      · omega
      · exact h'.1 z hz
theorem sortInts_sorted : ∀ l : List Int, (sortInts l).Pairwise (· ≤ ·)
  | [] => List.Pairwise.nil
  | x :: r => insInt_sorted x _ (sortInts_sorted r)
theorem sorted_one {a b : List Int} (p : a.Perm b) (ha : a.Pairwise (· ≤ ·)) (hb : b.Pairwise (· ≤ ·)) : a = b :=
  p.eq_of_pairwise (fun x y _ _ h1 h2 => Int.le_antisymm h1 h2) ha hb
end
section
variable {prog : Program} {w : World} {A : Around} {E : Value → Shared → Prop} {s : Shared}
theorem collect_tuple {l : Addr} {vs : List Value} {Q : List Value → Shared → Prop} (hl : IsTup s.heap l vs.toArray)
    (h : Q vs { s with heap := (s.heap.push (seqObj "list" #[] 0)).update s.heap.objs.size (Obj.mapSeq (· ++ vs.toArray)) }) (hsz : vs.length ≤ sizeLine) :
    wpAny (model prog w) A (collect (.ref l)) Q E s := by
  obtain ⟨o, ho, hc, n, hd⟩ := id hl
  unfold collect
  refine wpAny_bind (wpAny_runValue (codeAny_builtin entry_proto_collect' ?_))
  show wpAny _ _ (do again (.builtin "list.__iadd__" ⟨[← newList [], .ref l], []⟩)) _ _ s
  refine wpAny_bind (wpAny_newList (wpAny_pure ⟨Code.quiet_builtin _ (by decide +kernel), codeAny_builtin entry_list_iadd' ?_⟩))
  show wpAny _ _ (Builtin.List.listExtendWith (.ref s.heap.objs.size) (.ref l) (.ref s.heap.objs.size)) _ _ { s with heap := s.heap.push (seqObj "list" #[] 0) }
  unfold Builtin.List.listExtendWith
  have ho' : (s.heap.push (seqObj "list" #[] 0)).get? l = some o := Heap.get?_push_of_some _ ho
  refine wpAny_bind (wpAny_typeOf (T := "tuple") ⟨o, ho', hc⟩ ?_)
  have ht : (Value.type "tuple" == Value.type "tuple") = true := by rfl
  rw [if_pos (by rw [ht]; simp)]
  refine wpAny_bind (listItems_at ho' hd ?_)
  refine wpAny_bind (listItems_at (xs := #[]) (n := 0) (Heap.get?_push_size _ rfl) rfl ?_)
  rw [if_neg (by simp)]
  refine wpAny_bind (listUpdate_at (xs := #[]) (n := 0) (Heap.get?_push_size _ rfl) rfl ?_ (Nat.zero_le _) (by show (#[] ++ vs.toArray).size ≤ sizeLine + 1; simp only [Array.size_append, List.size_toArray, List.length_nil]; omega))
  refine wpAny_pure ?_
  show wpAny (model prog w) A (do
      let o ← load s.heap.objs.size
      match o.data with
      | .seq xs _ => pure xs.toList
      | _ => unsupported "internal:collect") Q E { s with heap := (s.heap.push (seqObj "list" #[] 0)).update s.heap.objs.size (Obj.mapSeq (· ++ vs.toArray)) }
  refine wpAny_bind (wpAny_load (get?_update_seq (Heap.get?_push_size _ rfl) _) ?_)
  show wpAny _ _ (pure ((#[] : Array Value) ++ vs.toArray).toList) Q E _
  rw [show ((#[] : Array Value) ++ vs.toArray).toList = vs by simp]
  exact wpAny_pure h
open SrtO Srt in
theorem sorted_ordT {l : Addr} {vs : List Value} {ltv : Value → Value → Bool} {Q : Value → Shared → Prop} (O : Swo ltv) (hl : IsTup s.heap l vs.toArray) (hz : vs.length ≤ sizeLine)
    (hS : 2 ≤ vs.length → ∀ (h₁ : Heap) (a : Addr), h₁.get? a = some (seqObj "list" vs.toArray 0) → (∀ b o, s.heap.get? b = some o → b ≠ a ∧ h₁.get? b = some o) → SortableO prog w A.in1.in1 { s with heap := h₁ } a vs ltv)
    (h : ∀ out : List Value, Srtd ltv out → Stb ltv out vs → Q (.ref (s.heap.objs.size + 1)) { s with heap := sortedAll s.heap vs out.toArray }) :
    wpAny (model prog w) A (call (.builtin "sorted") [.ref l]) Q E s := by
  refine Calls.call_function_entry kind_sorted plain_sorted entry_sorted (args_sorted1 _) ?_
  unfold Builtin.«sorted»
  refine wpAny_bind (m := checkCount "sorted" 1 1 _) (wpAny_pure ?_)
  refine wpAny_bind (collect_tuple hl ?_ hz)
  refine wpAny_bind (wpAny_newList ?_ hz)
  have hsz : ((s.heap.push (seqObj "list" #[] 0)).update s.heap.objs.size (Obj.mapSeq (· ++ vs.toArray))).objs.size = s.heap.objs.size + 1 := by
    rw [Heap.size_update, size_push']
  have hoL : (((s.heap.push (seqObj "list" #[] 0)).update s.heap.objs.size (Obj.mapSeq (· ++ vs.toArray))).push (seqObj "list" vs.toArray 0)).get? (s.heap.objs.size + 1) = some (seqObj "list" vs.toArray 0) := by
    rw [← hsz]; exact Heap.get?_push_size _ rfl
  have keep : ∀ b o, s.heap.get? b = some o → b ≠ s.heap.objs.size + 1 ∧ (((s.heap.push (seqObj "list" #[] 0)).update s.heap.objs.size (Obj.mapSeq (· ++ vs.toArray))).push (seqObj "list" vs.toArray 0)).get? b = some o := fun b o q => by
    have hlt : b < s.heap.objs.size := Heap.lt_size q
    refine ⟨Nat.ne_of_lt (Nat.lt_succ_of_lt hlt), Heap.get?_push_of_some _ ?_⟩
    rw [Heap.get?_update_ne _ _ _ _ (Nat.ne_of_lt hlt)]
    exact Heap.get?_push_of_some _ q
  show wpAny _ _ _ _ _ { s with heap := ((s.heap.push (seqObj "list" #[] 0)).update s.heap.objs.size (Obj.mapSeq (· ++ vs.toArray))).push (seqObj "list" vs.toArray 0) }
  rw [hsz]
  refine wpAny_bind (wpAny_holding (wpAny_call_entry slot_list_sort ⟨_, hoL, rfl⟩ entry_list_sort (list_sort_ord O hoL hz (fun h2 => hS h2 _ _ hoL keep) fun out hs hb => ⟨_, rfl, ?_⟩) (args_list_sort _)))
  exact wpAny_pure ⟨_, rfl, h out hs hb⟩
end
section
variable {X : Cx}
theorem cr_sortedT : CallR X (.builtin "sorted") (fun vs H Q => ∃ (a : Addr) (ns : List Int), vs = [V.ref a] ∧ SqT X.K H a (ns.map V.int) ∧
    ∀ (ns' : List Int) (p : Addr), ns'.Perm ns → ns'.Pairwise (· ≤ ·) → H p = none → Q (.ref p) (upd H p (.lst (ns'.map V.int)))) := by
  intro pins s σ H vs us Q I r h
  obtain ⟨a, ns, rfl, hs, q⟩ := h
  obtain ⟨its, rv, hl, hz⟩ := I.tuple hs
  rw [Vals.ref1 r]
  have hi := rv.ints
  refine sorted_ordT SrtO.swo_int hl (by rw [← rv.length]; exact hz) (fun h2 h₁ a' _ _ => SrtO.ints_sortable hi h2) fun out h1 h2 => ?_
  obtain ⟨k1, k2, k3⟩ := SrtO.ints_out hi h1 h2
  obtain ⟨ep, he'⟩ := PyProof.Rows.sortedAll_at s.heap its out.toArray
  have hlen : ((out.map SrtO.iv).map V.int).length ≤ sizeLine := by
    rw [List.length_map, k2.length_eq]
    rw [List.length_map] at hz
    exact hz
  exact ⟨.ref _, upd H (s.heap.objs.size + 1) (.lst ((out.map SrtO.iv).map V.int)), I.laid (t' := s.toks) (fun _ _ => PyProof.Rows.sortedAll_old) (Nat.le_succ _) ⟨hlen, out, ep, vals_of_ints k1, he'⟩, rfl, q _ _ k2 k3 (I.hok.fresh (Nat.le_succ _))⟩
end

section
variable {X : Cx}
def B1.val : B1 → Value
  | .list => .type "list"
  | .tuple => .type "tuple"
  | .int => .type "int"
  | f => .builtin f.name
def rB1 (K : PySem.W.Frag) (f : B1) : List V → Hp → VK → Prop := fun xs H Q => ∃ x d d', xs = [x] ∧ RvS K H x d ∧ apB1 f d = some d' ∧ New K H Q f.ty d'
theorem RvS.int {K : PySem.W.Frag} {H : Hp} {v : V} {i : Int} (h : RvS K H v (.int i)) : v = .int i := by
  rcases h with h | ⟨A, h⟩
  · exact h.int
  · cases h
theorem RvS.bool {K : PySem.W.Frag} {H : Hp} {v : V} {i : Bool} (h : RvS K H v (.bool i)) : v = .bl i := by
  rcases h with h | ⟨A, h⟩
  · exact h.bool
  · cases h
theorem RvS.dct {K : PySem.W.Frag} {H : Hp} {v : V} {ds : List (Dt × Dt)} (h : RvS K H v (.dict ds)) : ∃ a o, v = .ref a ∧ ((∃ kvs, H a = some (.frz o (.dK kvs)) ∧ ShK K H kvs ds) ∨ ∃ kvs, H a = some (.frz o (.dT kvs)) ∧ ShT K H kvs ds) := by
  rcases h with h | ⟨A, h⟩
  · exact h.dct
  · cases h
theorem call_lenF : CallR X (.builtin "len") (fun xs H Q => ∃ a o kvs, xs = [.ref a] ∧ H a = some (.frz o (.dK kvs)) ∧ Q (.int kvs.length) H) := by
  intro pins s σ H xs us Q I r h
  obtain ⟨a, o, kvs, rfl, hd, q⟩ := h
  obtain ⟨u, rfl, rx⟩ := vals1 r
  cases rx
  exact d_len I (.inr ⟨o, hd⟩) fun t s' I' => ⟨.int kvs.length, H, I', ⟨t, rfl⟩, q⟩
theorem call_lenFT : CallR X (.builtin "len") (fun xs H Q => ∃ a o kvs, xs = [.ref a] ∧ H a = some (.frz o (.dT kvs)) ∧ Q (.int kvs.length) H) := by
  intro pins s σ H xs us Q I r h
  obtain ⟨a, o, kvs, rfl, q, h⟩ := h
  obtain ⟨u, rfl, rx⟩ := vals1 r
  cases rx
  obtain ⟨z, hd, xs, rel, dd⟩ := dt_rd I.hok (.inr ⟨o, q⟩)
  have hl := Paired.length rel
  refine call_len_dictH hd dd (by rw [← hl]; rw [sizeLine_eq] at z; omega) ?_
  rw [← hl]
  exact ⟨.int kvs.length, H, I.tok _, ⟨_, rfl⟩, h⟩
theorem reads_at {h : Heap} : ∀ {vs : List Value} {ds : List Dt} {as : List Addr} {i : Nat} {v : Value}, ReadsAll h vs ds as → vs[i]? = some v → ∃ d as, ds[i]? = some d ∧ Reads h v d as
  | _, _, _, _, _, .nil, e => by simp at e
  | _, _, _, 0, _, .cons r _, e => by simp at e; subst e; exact ⟨_, _, rfl, r⟩
  | _, _, _, i + 1, _, .cons _ rs, e => by
    obtain ⟨d, as, h1, h2⟩ := reads_at (i := i) rs (by simpa using e)
    exact ⟨d, as, by simpa using h1, h2⟩
theorem vals_at : ∀ {xs : List V} {us : List Value} {i : Nat} {u : Value}, Vals xs us → us[i]? = some u → ∃ x, xs[i]? = some x ∧ RelV x u
  | _, _, _, _, .nil, e => by simp at e
  | _, _, 0, _, .cons r _, e => by simp at e; subst e; exact ⟨_, rfl, r⟩
  | _, _, i + 1, _, .cons _ rs, e => by
    obtain ⟨x, h1, h2⟩ := vals_at (i := i) rs (by simpa using e)
    exact ⟨x, by simpa using h1, h2⟩
/-- the best of a list or a tuple -/
theorem best_ok {nm : String} {o : CmpOp} {a : Addr} {its : List Value} {xs : List V} {d0 r : Dt} {dr : List Dt} {pins : List (Addr × Obj)} {σ : L2.St} {H : Hp} {s : Shared} {Q : VK} (hc : X.calm = true) (hnm : nm = "min" ∧ o = .Lt ∨ nm = "max" ∧ o = .Gt) (hu : X.A.units + 66 < cLine) (I : Inv X pins σ H s)
    (hl : s.heap.IsList a its.toArray ∨ s.heap.IsTuple a its.toArray) (rv : Vals xs its) (sh : ShA X.K H xs (d0 :: dr)) (hcl : PyData.canLayAll0 (d0 :: dr) = true) (hb : bestD o d0 dr = some r) (q : ∀ v, Sh X.K H v r → Q v H) :
    wpAny (model X.prog X.w) X.A (call (.builtin nm) [.ref a]) (EP X pins σ Q) X.xe s := by
  obtain ⟨as, rs⟩ := Dp.readsAll I (d0 :: dr) xs its (sh.dp hcl) rv
  have hlt : a < s.heap.objs.size := by
    rcases hl with ⟨_, e, _⟩ | ⟨_, e, _⟩
    · exact Heap.lt_size e
    · exact Heap.lt_size e
  have hn : its.toArray.size = (d0 :: dr).length := by rw [List.size_toArray]; exact SeqAt.ReadsAll.length _ _ _ rs
  have hr : ∀ (i : Nat) v, its.toArray[i]? = some v → ∃ d as, (d0 :: dr)[i]? = some d ∧ Reads s.heap v d as := fun i v e => reads_at rs (by simpa using e)
  have fin : ∀ (s2 : Shared) v h' tk, s2.gens = s.gens → s2.drawn = s.drawn → s2.os = s.os → Itm s.heap its.toArray (d0 :: dr) v r → (∀ b o, s.heap.get? b = some o → h'.get? b = some o) → EP X pins σ Q v { s2 with heap := h', toks := tk } := fun s2 v h' tk e1 e2 e3 im k => by
    obtain ⟨i, h1, h2⟩ := im
    obtain ⟨x, x1, x2⟩ := vals_at rv (by simpa using h1 : its[i]? = some v)
    obtain ⟨x', y1, y2⟩ := sh.get h2
    rw [x1] at y1
    cases y1
    rw [e1, e2, e3]
    exact ⟨x, H, I.kept k, x2, q x y2⟩
  have hne : a ≠ s.heap.objs.size := Nat.ne_of_lt hlt
  have hfp : ∀ (o : Obj), ∀ b ∈ [s.heap.objs.size, a], b < (s.heap.push o).objs.size := fun o b hb => by
    rw [Heap.size_push]
    rcases List.mem_cons.mp hb with rfl | hb
    · exact Nat.lt_succ_self _
    · rcases List.mem_cons.mp hb with rfl | hb
      · exact Nat.lt_succ_of_lt hlt
      · cases hb
  have hwr : ∀ b ∈ [s.heap.objs.size], s.heap.get? b = none := fun b hb => by
    rcases List.mem_cons.mp hb with rfl | hb
    · cases z : s.heap.get? s.heap.objs.size with
      | none => rfl
      | some o => exact absurd (Heap.lt_size z) (Nat.lt_irrefl _)
    · cases hb
  have hsz : ∀ o, s.heap.objs.size ≤ (s.heap.push o).objs.size := fun o => by rw [Heap.size_push]; exact Nat.le_succ _
  have main : wpAny (model X.prog X.w) X.A.in1 (pyIter (.ref a)) (fun it s₂ => ∃ I fp wr St, it = .ref I ∧ Walks X.prog X.w X.A.in1 I fp wr its.toArray.size (fun i v => its.toArray[i]? = some v) St ∧ St 0 s₂.heap ∧ (∀ b ∈ fp, b < s₂.heap.objs.size) ∧ (∀ b ∈ wr, s.heap.get? b = none) ∧ s.heap.objs.size ≤ s₂.heap.objs.size ∧ (∀ b o, s.heap.get? b = some o → s₂.heap.get? b = some o) ∧
      ∀ v h' tk, Itm s.heap its.toArray (d0 :: dr) v r → (∀ b o, s.heap.get? b = some o → h'.get? b = some o) → EP X pins σ Q v { s₂ with heap := h', toks := tk }) X.xe s := by
    rcases hl with hl | hl
    · refine wpAny_pyIter_list hl ⟨_, _, _, _, rfl, Walks.list (A := X.A.in1) (I.ok.hd hc) _ a hne its.toArray, ⟨⟨_, Heap.get?_push_size _ rfl, rfl, rfl⟩, hl.push _⟩, hfp _, hwr, hsz _, fun b o e => Heap.get?_push_of_some _ e, fun v h' tk => fin _ v h' tk rfl rfl rfl⟩
    · refine wpAny_pyIter_tuple hl ⟨_, _, _, _, rfl, Walks.tuple (A := X.A.in1) (I.ok.hd hc) _ a hne its.toArray, ⟨⟨_, Heap.get?_push_size _ rfl, rfl, rfl⟩, hl.push _⟩, hfp _, hwr, hsz _, fun b o e => Heap.get?_push_of_some _ e, fun v h' tk => fin _ v h' tk rfl rfl rfl⟩
  rcases hnm with ⟨rfl, rfl⟩ | ⟨rfl, rfl⟩
  · exact min_data (ds := d0 :: dr) (its := its.toArray) rfl hb hr hn hu (fun k r => Reads.keeps k r) main
  · exact max_data (ds := d0 :: dr) (its := its.toArray) rfl hb hr hn hu (fun k r => Reads.keeps k r) main
theorem best_seq {nm : String} {o : CmpOp} {d : Dt} {x : V} {u : Value} {d0 r : Dt} {dr : List Dt} {pins : List (Addr × Obj)} {σ : L2.St} {H : Hp} {s : Shared} {Q : VK} (hd : d = .list (d0 :: dr) ∨ d = .tuple (d0 :: dr)) (h : RvS X.K H x d) (rx : RelV x u) (hc : X.calm = true) (hnm : nm = "min" ∧ o = .Lt ∨ nm = "max" ∧ o = .Gt) (hu : X.A.units + 66 < cLine) (I : Inv X pins σ H s)
    (e : (if PyData.canLayAll0 (d0 :: dr) = true then bestD o d0 dr else none) = some r) (q : ∀ v, Sh X.K H v r → Q v H) : wpAny (model X.prog X.w) X.A (call (.builtin nm) [u]) (EP X pins σ Q) X.xe s := by
  split at e
  · rename_i hcl
    rcases hd with rfl | rfl
    · obtain ⟨a, xs, rfl, qq, z⟩ := h.lst
      cases rx
      obtain ⟨its, rv, hl, _⟩ := I.list qq
      exact best_ok hc hnm hu I (.inl hl.isList) rv z hcl e q
    · obtain ⟨a, xs, rfl, qq, z⟩ := h.tup
      cases rx
      obtain ⟨its, rv, hl, _⟩ := I.tuple qq
      exact best_ok hc hnm hu I (.inr hl) rv z hcl e q
  · cases e
theorem b1_ok (f : B1) (hc : X.calm = true) (hu : X.A.units + 66 < cLine) : CallR X f.val (rB1 X.K f) := by
  intro pins s σ H xs us Q I r h
  obtain ⟨x, d, d', rfl, h, e, n⟩ := h
  unfold apB1 at e
  split at e
  · cases e
    obtain ⟨a, xs, rfl, q, z⟩ := h.lst
    exact call_len_seq pins s σ H _ us Q I r ⟨a, xs, rfl, .inl q, by rw [z.length]; exact n.val (.int _)⟩
  · cases e
    obtain ⟨a, xs, rfl, q, z⟩ := h.tup
    exact call_len_seq pins s σ H _ us Q I r ⟨a, xs, rfl, .inr q, by rw [z.length]; exact n.val (.int _)⟩
  · cases e
    obtain ⟨a, o, rfl, ⟨kvs, q, z⟩ | ⟨kvs, q, z⟩⟩ := h.dct
    · exact call_lenF pins s σ H _ us Q I r ⟨a, o, kvs, rfl, q, by rw [z.length]; exact n.val (.int _)⟩
    · exact call_lenFT pins s σ H _ us Q I r ⟨a, o, kvs, rfl, q, by rw [z.length]; exact n.val (.int _)⟩
  · simp only [Option.map_eq_some_iff] at e
    obtain ⟨bs, hb, rfl⟩ := e
    rw [boolsOf_map hb] at h
    obtain ⟨a, xs, rfl, q, z⟩ := h.lst
    rw [sha_bools z] at q
    exact cr_all hc pins s σ H _ us Q I r ⟨a, bs, rfl, q, n.val (.bl _)⟩
  · simp only [Option.map_eq_some_iff] at e
    obtain ⟨bs, hb, rfl⟩ := e
    rw [boolsOf_map hb] at h
    obtain ⟨a, xs, rfl, q, z⟩ := h.lst
    rw [sha_bools z] at q
    exact cr_any hc pins s σ H _ us Q I r ⟨a, bs, rfl, q, n.val (.bl _)⟩
  · simp only [Option.map_eq_some_iff] at e
    obtain ⟨bs, hb, rfl⟩ := e
    rw [intsOf_map hb] at h
    obtain ⟨a, xs, rfl, q, z⟩ := h.lst
    rw [sha_ints z] at q
    refine cr_sortedI pins s σ H _ us Q I r ⟨a, bs, rfl, q, fun ns' p hp hs hn => ?_⟩
    rw [sorted_one (hp.trans (sortInts_perm bs).symm) hs (sortInts_sorted bs)]
    exact n.lst (ints_sha _) hn
  · simp only [Option.map_eq_some_iff] at e
    obtain ⟨bs, hb, rfl⟩ := e
    rw [intsOf_map hb] at h
    obtain ⟨a, xs, rfl, q, z⟩ := h.tup
    rw [sha_ints z] at q
    refine cr_sortedT pins s σ H _ us Q I r ⟨a, bs, rfl, q, fun ns' p hp hs hn => ?_⟩
    rw [sorted_one (hp.trans (sortInts_perm bs).symm) hs (sortInts_sorted bs)]
    exact n.lst (ints_sha _) hn
  · cases e
    obtain ⟨a, xs, rfl, q, z⟩ := h.lst
    exact call_list_of pins s σ H _ us Q I r ⟨a, xs, rfl, .inl q, fun l hl => n.lst z hl⟩
  · cases e
    obtain ⟨a, xs, rfl, q, z⟩ := h.tup
    exact call_list_of pins s σ H _ us Q I r ⟨a, xs, rfl, .inr q, fun l hl => n.lst z hl⟩
  · cases e
    obtain ⟨a, xs, rfl, q, z⟩ := h.lst
    exact call_tuple_of pins s σ H _ us Q I r ⟨a, xs, rfl, .inl ⟨q, fun l hl => n.tup z hl⟩⟩
  · cases e
    obtain ⟨a, xs, rfl, q, z⟩ := h.tupF
    exact call_tuple_of pins s σ H _ us Q I r ⟨a, xs, rfl, .inr ⟨q.sq, n.val (.tup q z)⟩⟩
  · cases e
    cases h.int
    exact call_abs pins s σ H _ us Q I r ⟨_, rfl, n.val (.int _)⟩
  · cases e
    cases h.int
    exact call_int1 pins s σ H _ us Q I r (.inl ⟨_, rfl, n.val (.int _)⟩)
  · cases e
    cases h.bool
    exact call_int1 pins s σ H _ us Q I r (.inr ⟨_, rfl, n.val (.int _)⟩)
  · simp only [Option.map_eq_some_iff] at e
    obtain ⟨bs, hb, rfl⟩ := e
    rw [intsOf_map hb] at h
    obtain ⟨a, xs, rfl, q, z⟩ := h.lst
    rw [sha_ints z] at q
    exact cr_sum hc pins s σ H _ us Q I r ⟨a, bs, rfl, q, n.val (.int _)⟩
  · obtain ⟨u, rfl, rx⟩ := vals1 r
    exact best_seq (.inl rfl) h rx hc (.inl ⟨rfl, rfl⟩) hu I e fun v z => n.val z
  · obtain ⟨u, rfl, rx⟩ := vals1 r
    exact best_seq (.inr rfl) h rx hc (.inl ⟨rfl, rfl⟩) hu I e fun v z => n.val z
  · obtain ⟨u, rfl, rx⟩ := vals1 r
    exact best_seq (.inl rfl) h rx hc (.inr ⟨rfl, rfl⟩) hu I e fun v z => n.val z
  · obtain ⟨u, rfl, rx⟩ := vals1 r
    exact best_seq (.inr rfl) h rx hc (.inr ⟨rfl, rfl⟩) hu I e fun v z => n.val z
  · cases e
/-! ### isinstance -/
def tyNm : Dt → String
  | .none => "NoneType"
  | .bool _ => "bool"
  | .int _ => "int"
  | .str _ => "str"
  | .list _ => "list"
  | .tuple _ => "tuple"
  | .dict _ => "dict"
theorem kit_isi (d : Dt) (c : Ic) : kitB (tyNm d) c.name = some (isiD d c) := by
  cases d <;> cases c <;> (simp only [tyNm, Ic.name, isiD]; decide +kernel)
theorem RvS.tyx {K : PySem.W.Frag} {H : Hp} {v : V} {d : Dt} (h : RvS K H v d) : TyX K H v (.type (tyNm d)) ∨ ∃ a o kvs, v = .ref a ∧ H a = some (.frz o (.dT kvs)) ∧ tyNm d = "dict" := by
  rcases h with (h | ⟨a, xs, ds, rfl, rfl, e, _⟩) | ⟨A, h⟩
  · cases h with
    | non => exact .inl (.base .non)
    | bl b => exact .inl (.base (.bl b))
    | int i => exact .inl (.base (.int i))
    | str x => exact .inl (.base (.str x))
    | lst e s => obtain ⟨o, e⟩ := e; exact .inl (.base (.frz e))
    | tup e s => exact .inl (.base (.tup e))
    | dct e s => exact .inl (.fDict e)
    | dcT e s => exact .inr ⟨_, _, _, rfl, e, rfl⟩
  · exact .inl (.base (.lst e))
  · cases h with
    | kl e s => exact .inl (.base (.lst e))
    | ks e s =>
      rcases e with ⟨o, e⟩ | ⟨o, its, n, e, c, _⟩
      · exact .inl (.base (.frz e))
      · exact .inl (.kList e c)
def rIsD (K : PySem.W.Frag) (c : Ic) : List V → Hp → VK → Prop := fun xs H Q => ∃ x d, xs = [x, .ty c.name] ∧ RvS K H x d ∧ Q (.bl (isiD d c)) H
theorem isi_ok (c : Ic) : CallR X (.builtin "isinstance") (rIsD X.K c) := by
  intro pins s σ H xs us Q I r h
  obtain ⟨x, d, rfl, h, q⟩ := h
  rcases h.tyx with t | ⟨a, o, kvs, rfl, e, t⟩
  · exact call_isi pins s σ H _ us Q I r ⟨x, .ty c.name, .type (tyNm d), .type c.name, isiD d c, rfl, .ty _, t, kit_ty (kit_isi d c), q⟩
  · obtain ⟨u1, u2, rfl, r1, r2⟩ := vals2 r
    obtain rfl : u1 = Value.ref a := r1
    obtain rfl : u2 = Value.type c.name := r2
    obtain ⟨_, _, _, xs, _, ob, es, ep, h1, h2, _⟩ := (show ObjOk X.prog X.w H s.heap a (.frz o (.dT kvs)) from I.hok a _ e)
    exact PySem.W.kia_one PySem.W.kitx_dict I.kIn ⟨ob, h1, h2.1⟩ (by rw [← t]; exact kit_ty (kit_isi d c)) (fun z => nomatch z) fun tk => ⟨.bl (isiD d c), H, I.tok tk, rfl, q⟩
end
end VL


set_option Elab.async false
set_option linter.all false
set_option maxRecDepth 100000
set_option maxHeartbeats 1000000
/-! VL4: readings of expressions by what they mean on data. -/
namespace VL
open PySem PySem.Spec PyProof.Rows L2
abbrev WX := L2.WX

/-! ### what comes -/
structure Res (g : G) (c : Cn) (S : List Nat) (T : Ty) (H H' : Hp) (f' : Ft) (v : V) (d : Dt) (A : List Addr) : Prop where
  rv : Rv g.K H' T v d A
  rep : S = [] → Rep g.K H' T v d A
  new : ∀ a ∈ A, H a = none ∨ ∃ i ∈ S, a ∈ f' i
  dis : ∀ i a, ownS (c.getD i .no) = true → i ∉ S → a ∈ A → a ∉ f' i
/-- an error leaves -/
def Xst (g : G) (c : Cn) (f : Ft) (W : WX) (x : Str) (xs : List Dt) (σ : L2.St) (H : Hp) : Prop :=
  ∀ cls dd H', g.exc x xs cls dd H' → Fr c f H H' → (∀ a, H' a = none → H a = none) → g.tabs H' → W cls dd σ H'
/-- the wish behind a reckoning: what came, the slots behind, the slots, heap, parts ahead -/
abbrev Fn_ (b : Type) := b → Ev → Ev → Hp → Ft → Prop
def at_ {b : Type} (g : G) (c : Cn) (W : WX) (F : Fn_ b) (m : M b) (e : Ev) (f : Ft) (σ : L2.St) (H : Hp) : Prop :=
  match m e with
  | .ok (x, e') => F x e' e H f
  | .exc x xs => Xst g c f W x xs σ H
  | .err => False
def Shf {b : Type} (c : Cn) (F : Fn_ b) : Prop := ∀ x e' e H f e1 H1 f1, F x e' e H f → Stp c e H f e1 H1 f1 → F x e' e1 H1 f1
def finV (g : G) (c : Cn) (T : Ty) (S : List Nat) (σ : L2.St) (Q : VK) : Fn_ Dt := fun d e' e H f => ∀ v H' f' A, Rel g c e' σ H' f' → Stp c e H f e' H' f' → Res g c S T H H' f' v d A → Q v H'
def finT (g : G) (c : Cn) (σ : L2.St) (Q : Bool → Hp → Prop) : Fn_ Bool := fun b e' e H f => ∀ H' f', Rel g c e' σ H' f' → Stp c e H f e' H' f' → Q b H'
def finL (g : G) (c : Cn) (T : Ty) (σ : L2.St) (Q : List V → Hp → Prop) : Fn_ (List Dt) := fun ds e' e H f =>
  ∀ vs H' f' A, Rel g c e' σ H' f' → Stp c e H f e' H' f' → RepA g.K H' T vs ds A → (∀ a ∈ A, H a = none) → (∀ i a, ownS (c.getD i .no) = true → a ∈ A → a ∉ f' i) → Q vs H'
def finO (g : G) (c : Cn) (σ : L2.St) (Q : Option Int → Hp → Prop) : Fn_ (Option Int) := fun b e' e H f => ∀ H' f', Rel g c e' σ H' f' → Stp c e H f e' H' f' → Q b H'
def tV (g : G) (c : Cn) (W : WX) (m : M Dt) (T : Ty) (S : List Nat) : TE := fun σ H Q => ∃ e f, Rel g c e σ H f ∧ at_ g c W (finV g c T S σ Q) m e f σ H
def tT (g : G) (c : Cn) (W : WX) (m : M Bool) : TT := fun σ H Q => ∃ e f, Rel g c e σ H f ∧ at_ g c W (finT g c σ Q) m e f σ H
def tL (g : G) (c : Cn) (W : WX) (m : M (List Dt)) (T : Ty) : TA := fun σ H Q => ∃ e f, Rel g c e σ H f ∧ at_ g c W (finL g c T σ Q) m e f σ H
def tO (g : G) (c : Cn) (W : WX) (m : M (Option Int)) : TO := fun σ H Q => ∃ e f, Rel g c e σ H f ∧ at_ g c W (finO g c σ Q) m e f σ H
theorem PE.imp {X : Cx} {e : Expr} {t t' : TE} (h : PE X e t) (i : ∀ σ H Q, t' σ H Q → t σ H Q) : PE X e t' := ⟨fun pins s σ H Q I q => h.run pins s σ H Q I (i σ H Q q)⟩
theorem PT.imp {X : Cx} {e : Expr} {t t' : TT} (h : PT X e t) (i : ∀ σ H Q, t' σ H Q → t σ H Q) : PT X e t' := ⟨fun pins s σ H Q I q => h.run pins s σ H Q I (i σ H Q q)⟩
theorem PA.imp {X : Cx} {e : List Expr} {t t' : TA} (h : PA X e t) (i : ∀ σ H Q, t' σ H Q → t σ H Q) : PA X e t' := ⟨fun pos pins s σ H Q I q => h.run pos pins s σ H Q I (i σ H Q q)⟩
section
variable {g : G} {c : Cn} {W : WX} {e e1 e2 : Ev} {f f1 f2 : Ft} {σ : L2.St} {H H1 H2 : Hp} {S : List Nat} {T : Ty} {v : V} {d : Dt} {A : List Addr}
theorem Stp.frx (s : Stp c e H f e1 H1 f1) (x : Fr c f1 H1 H2) : Fr c f H H2 := fun a o h n nt => by
  refine x a o (s.fr a o h n nt) (fun i ho hm => ?_) nt
  rcases s.gro i a ho hm with ⟨j, hj, z, _⟩ | z
  · exact n j hj z
  · rw [h] at z; cases z
theorem Fr.lent (x : Fr (lend c S) f H H1) : Fr c f H H1 := fun a o h n nt => x a o h (fun i ho => n i (lend_own ho).2) nt
theorem Xst.later {x : Str} {xs : List Dt} (h : Xst g c f W x xs σ H) (s : Stp c e H f e1 H1 f1) : Xst g c f1 W x xs σ H1 :=
  fun cls dd H' a b o t => h cls dd H' a (s.frx b) (fun q z => s.old q (o q z)) t
theorem Xst.lend {x : Str} {xs : List Dt} (h : Xst g c f W x xs σ H) (S : List Nat) : Xst g (VL.lend c S) f W x xs σ H :=
  fun cls dd H' a b o t => h cls dd H' a b.lent o t
theorem Rv.foot {K : PySem.W.Frag} {H : Hp} {t : Ty} {v : V} {d : Dt} {A : List Addr} (h : Rv K H t v d A) : ∀ a ∈ A, ∃ xs, H a = some (.lst xs) := by
  rcases h with h | h
  · exact h.foot
  · intro a ha; rw [h.2] at ha; cases ha
/-- a value held while more is reckoned -/
theorem Res.hold (r : Res g c S T H H1 f1 v d A) (rel : Rel g c e1 σ H1 f1) (s : Stp (VL.lend c S) e1 H1 f1 e2 H2 f2) : Rv g.K H2 T v d A ∧ (S = [] → Rep g.K H2 T v d A) := by
  have im : Im H1 H2 := rel.im (s.lent rel).fr
  have k : ∀ a ∈ A, ∀ o, H1 a = some o → H2 a = some o := fun a ha o q => by
    refine s.fr a o q (fun i ho hm => ?_) (fun ps z => ?_)
    · obtain ⟨h1, h2⟩ := lend_own ho
      exact r.dis i a h2 h1 ha hm
    · obtain ⟨xs, q'⟩ := r.rv.foot a ha
      rw [z, q'] at q; cases q
  exact ⟨r.rv.mono im k, fun z => (r.rep z).mono im k⟩
/-- a new value at the end -/
theorem fin_new (rel : Rel g c e1 σ H1 f1) (s : Stp c e H f e1 H1 f1) {Q : VK} (h : ∀ v H' f' A, Rel g c e1 σ H' f' → Stp c e H f e1 H' f' → Res g c [] T H H' f' v d A → Q v H') : New g.K H1 Q T d := by
  intro v H' A x r n
  refine h v H' f1 A (rel.ext x (g.tm _ _ (fun a o q _ _ => x a o q) rel.tabs)) (s.trans (Stp.ext x)) ⟨.inl r, fun _ => r, fun a ha => .inl (s.old a (n a ha)), fun i a _ _ ha hm => ?_⟩
  obtain ⟨xs, q⟩ := rel.foot i a hm
  rw [n a ha] at q; cases q
theorem shfV {Q : VK} : Shf c (finV g c T S σ Q) := fun x e' e H f e1 H1 f1 h s v H' f' A r s' q =>
  h v H' f' A r (s.trans s') ⟨q.rv, q.rep, fun a ha => (q.new a ha).elim (fun z => .inl (s.old a z)) .inr, q.dis⟩
theorem shfT {Q : Bool → Hp → Prop} : Shf c (finT g c σ Q) := fun x e' e H f e1 H1 f1 h s H' f' r s' => h H' f' r (s.trans s')
theorem shfO {Q : Option Int → Hp → Prop} : Shf c (finO g c σ Q) := fun x e' e H f e1 H1 f1 h s H' f' r s' => h H' f' r (s.trans s')
theorem shfL {Q : List V → Hp → Prop} : Shf c (finL g c T σ Q) := fun x e' e H f e1 H1 f1 h s vs H' f' A r s' q n d =>
  h vs H' f' A r (s.trans s') q (fun a ha => s.old a (n a ha)) d
section
variable {α β : Type} {F : Fn_ β} {m1 : M α} {k : α → M β}
theorem at_bind (hF : Shf c F) (h : at_ g c W F (mb m1 k) e f σ H) : at_ g c W (fun x e1 e H f => ∀ H1 f1, Stp c e H f e1 H1 f1 → at_ g c W F (k x) e1 f1 σ H1) m1 e f σ H := by
  unfold at_ mb at h
  unfold at_
  cases q : m1 e with
  | err => rw [q] at h; exact h
  | exc x xs => rw [q] at h; exact h
  | ok p =>
    obtain ⟨x, e1⟩ := p
    rw [q] at h
    intro H1 f1 s
    simp only at h
    cases q2 : k x e1 with
    | err => rw [q2] at h; exact h
    | exc x xs => rw [q2] at h; exact Xst.later h s
    | ok p => rw [q2] at h; exact hF _ _ _ _ _ _ _ _ h s
theorem at_mono {F' : Fn_ α} (h : at_ g c W F' m1 e f σ H) {F2 : Fn_ α} (i : ∀ x e1, F' x e1 e H f → F2 x e1 e H f) : at_ g c W F2 m1 e f σ H := by
  unfold at_ at h ⊢
  cases q : m1 e with
  | err => rw [q] at h; exact h
  | exc x xs => rw [q] at h; exact h
  | ok p => rw [q] at h; exact i _ _ h
theorem at_lend {F' : Fn_ α} (h : at_ g c W F' m1 e f σ H) (S : List Nat) : at_ g (VL.lend c S) W F' m1 e f σ H := by
  unfold at_ at h ⊢
  cases q : m1 e with
  | err => rw [q] at h; exact h
  | exc x xs => rw [q] at h; exact Xst.lend h S
  | ok p => rw [q] at h; exact h
theorem at_mo {r : Option α} {F' : Fn_ α} (h : at_ g c W F' (mo r) e f σ H) : ∃ x, r = some x ∧ F' x e e H f := by
  unfold at_ mo at h
  cases r with
  | none => exact h.elim
  | some x => exact ⟨x, rfl, h⟩
end
/-- two operands -/
theorem two {r : R2} {m1 m2 : M Dt} {F : Dt → Dt → Option Dt} {T1 T2 : Ty} {S1 S2 : List Nat}
    (hr : ∀ x y d1 d2 d A B H Q, Rv g.K H T1 x d1 A → Rv g.K H T2 y d2 B → F d1 d2 = some d → New g.K H Q T d → r x y H Q) (σ : L2.St) (H : Hp) (Q : VK) (h : tV g c W (mb m1 fun x => mb m2 fun y => mo (F x y)) T [] σ H Q) :
    tOp r (tV g c W m1 T1 S1) (tV g (VL.lend c S1) W m2 T2 S2) σ H Q := by
  obtain ⟨e, f, rel, h⟩ := h
  refine ⟨e, f, rel, at_mono (at_bind shfV h) fun d1 e1 h1 v1 H1 f1 A1 rel1 st1 res1 => ?_⟩
  refine ⟨e1, f1, rel1.lend S1, at_mono (at_lend (at_bind shfV (h1 H1 f1 st1)) S1) fun d2 e2 h2 v2 H2 f2 A2 rel2 st2 res2 => ?_⟩
  have rel2' := rel2.back rel1 st2
  obtain ⟨d, hd, hf⟩ := at_mo (h2 H2 f2 (st2.lent rel1))
  exact hr v1 v2 d1 d2 d A1 A2 H2 Q (res1.hold rel1 st2).1 res2.rv hd (fin_new rel2' Stp.refl hf)
/-- one operand -/
theorem one {m1 : M Dt} {F : Dt → Option Dt} {T1 : Ty} {S1 : List Nat} {r : V → Hp → VK → Prop}
    (hr : ∀ x d1 d A H Q, Rv g.K H T1 x d1 A → F d1 = some d → New g.K H Q T d → r x H Q) (σ : L2.St) (H : Hp) (Q : VK) (h : tV g c W (mb m1 fun x => mo (F x)) T [] σ H Q) :
    tV g c W m1 T1 S1 σ H fun x H1 => r x H1 Q := by
  obtain ⟨e, f, rel, h⟩ := h
  refine ⟨e, f, rel, at_mono (at_bind shfV h) fun d1 e1 h1 v1 H1 f1 A1 rel1 st1 res1 => ?_⟩
  obtain ⟨d, hd, hf⟩ := at_mo (h1 H1 f1 st1)
  exact hr v1 d1 d A1 H1 Q res1.rv hd (fin_new rel1 Stp.refl hf)
/-- one operand, a test -/
theorem oneT {m1 : M Dt} {F : Dt → Option Bool} {T1 : Ty} {S1 : List Nat} {r : V → Hp → (Bool → Hp → Prop) → Prop}
    (hr : ∀ x d1 b A H Q, Rv g.K H T1 x d1 A → F d1 = some b → Q b H → r x H Q) (σ : L2.St) (H : Hp) (Q : Bool → Hp → Prop) (h : tT g c W (mb m1 fun x => mo (F x)) σ H Q) :
    tV g c W m1 T1 S1 σ H fun x H1 => r x H1 Q := by
  obtain ⟨e, f, rel, h⟩ := h
  refine ⟨e, f, rel, at_mono (at_bind shfT h) fun d1 e1 h1 v1 H1 f1 A1 rel1 st1 res1 => ?_⟩
  obtain ⟨d, hd, hf⟩ := at_mo (h1 H1 f1 st1)
  exact hr v1 d1 d A1 H1 Q res1.rv hd (hf H1 f1 rel1 Stp.refl)
theorem twoT {r : R2} {m1 m2 : M Dt} {F : Dt → Dt → Option Bool} {T1 T2 : Ty} {S1 S2 : List Nat}
    (hr : ∀ x y d1 d2 b A B H Q, Rv g.K H T1 x d1 A → Rv g.K H T2 y d2 B → F d1 d2 = some b → Q (.bl b) H → r x y H Q) (σ : L2.St) (H : Hp) (Q : Bool → Hp → Prop) (h : tT g c W (mb m1 fun x => mb m2 fun y => mo (F x y)) σ H Q) :
    tTest (tOp r (tV g c W m1 T1 S1) (tV g (VL.lend c S1) W m2 T2 S2)) σ H Q := by
  obtain ⟨e, f, rel, h⟩ := h
  refine ⟨e, f, rel, at_mono (at_bind shfT h) fun d1 e1 h1 v1 H1 f1 A1 rel1 st1 res1 => ?_⟩
  refine ⟨e1, f1, rel1.lend S1, at_mono (at_lend (at_bind shfT (h1 H1 f1 st1)) S1) fun d2 e2 h2 v2 H2 f2 A2 rel2 st2 res2 => ?_⟩
  have rel2' := rel2.back rel1 st2
  obtain ⟨d, hd, hf⟩ := at_mo (h2 H2 f2 (st2.lent rel1))
  exact hr v1 v2 d1 d2 d A1 A2 H2 _ (res1.hold rel1 st2).1 res2.rv hd ⟨d, rfl, hf H2 f2 rel2' Stp.refl⟩
end

/-! ### where one stands -/
structure CxV (g : G) (N : List Str) (sc : Scope) (lv : Nat) (W : WX) (X : Cx) : Prop where
  hK : X.K = g.K
  hN : X.N = N
  hnd : N.Nodup
  hsc : X.env.scope = sc
  calm : X.calm = true
  room : Room lv X.A
  takes : Takes X W
  bt : ∀ x ∈ ["len", "all", "any", "sorted", "list", "tuple", "abs", "int", "sum", "range", "isinstance", "bool", "str", "dict", "min", "max", "enumerate", "zip"], X.mg (Str.ofString x) = none
section
variable {g : G} {c : Cn} {W : WX} {N : List Str} {sc : Scope} {lv : Nat} {X : Cx} {a b : Expr} {T T1 T2 : Ty} {S S1 S2 : List Nat} {m1 m2 : M Dt} {p : Pos}

/-! ### names, constants -/
def visB (sc : Scope) (x : Str) : Bool := sc.names.lookup x == some .local || sc.names.lookup x == some .cell || sc.names.lookup x == some .free
theorem vis_of {sc : Scope} {x : Str} (h : visB sc x = true) : Vis sc x := by
  unfold visB at h
  simp only [Bool.or_eq_true, beq_iff_eq] at h
  rcases h with (h | h) | h
  · exact .inl h
  · exact .inr (.inl h)
  · exact .inr (.inr h)
def nmB (x : Str) : Bool := !(x == ("__debug__" : Str)) && !(x == ("__classdict__" : Str))
def slTy : Sl → Option (Ty × Bool)
  | .no => none
  | .own t => some (t, true)
  | .ref t => some (t, true)
  | .bor t => some (t, true)
/-- shared things are no part of anything -/
def ali (t : Ty) (i : Nat) : List Nat :=
  match t with
  | .ls _ => [i]
  | _ => []
theorem rep_nil {K : PySem.W.Frag} {H : Hp} {t : Ty} {v : V} {d : Dt} {A : List Addr} (h : Rep K H t v d A) (n : ∀ u, t ≠ .ls u) (n2 : t ≠ .ks) : A = [] := by
  cases h with
  | sh _ => rfl
  | ls _ _ _ => exact absurd rfl (n _)
  | ks _ _ => rfl
  | kl _ _ => exact absurd rfl n2
def tyOf : Sl → Ty
  | .no => .sh
  | .own t => t
  | .ref t => t
  | .bor t => t
/-- a lent thing is only looked at -/
def aliS : Sl → Nat → List Nat
  | .bor .sh, _ => []
  | .bor .ks, i => [i]
  | .bor (.ls _), i => [i]
  | .own (.ls _), i => [i]
  | .ref (.ls _), i => [i]
  | .own .ks, i => [i]
  | .ref .ks, i => [i]
  | _, _ => []
theorem ok_var (K : CxV g N sc lv W X) {x : Str} {i : Nat} {sl : Sl} (hc : c[i]? = some sl) (hn : sl ≠ .no) (hN : N[i]? = some x) (hv : visB sc x = true) (hx : nmB x = true) :
    PE X (.Name x p) (tV g c W (fun e => .ok (e.getD i .none, e)) (tyOf sl) (aliS sl i)) := by
  unfold nmB at hx
  simp only [Bool.and_eq_true, Bool.not_eq_true'] at hx
  refine PE.imp (pe_var (i := i) (by rw [K.hN]; exact hN) (by rw [K.hsc]; exact vis_of hv) hx.1 hx.2) fun σ H Q h => ?_
  obtain ⟨e, f, rel, h⟩ := h
  have h : finV g c (tyOf sl) (aliS sl i) σ Q (e.getD i .none) e e H f := h
  obtain ⟨v, h1, h2⟩ := rel.at_ i sl hc hn
  refine ⟨v, h1, ?_⟩
  have dis : ∀ j a, ownS (c.getD j .no) = true → j ≠ i → a ∈ f i → a ∉ f j := fun j a ho hj ha hm => rel.dis j i a hj ho hm ha
  have al : ∀ A, A = f i → (∀ a ∈ A, H a = none ∨ ∃ j ∈ [i], a ∈ f j) := fun A e a ha => .inr ⟨i, by simp, by rw [← e]; exact ha⟩
  have di : ∀ j a, ownS (c.getD j .no) = true → j ∉ [i] → a ∈ f i → a ∉ f j := fun j a ho hj ha => dis j a ho (by simpa using hj) ha
  have nilr : ∀ A, A = f i → A = [] → (∀ a ∈ A, H a = none ∨ ∃ j ∈ ([] : List Nat), a ∈ f j) := fun A e z a ha => by rw [z] at ha; cases ha
  refine h v H f (f i) rel Stp.refl ?_
  cases sl with
  | no => exact absurd rfl hn
  | own t =>
    have r : Rep g.K H t v (e.getD i .none) (f i) := h2
    cases t with
    | sh => exact ⟨.inl r, fun _ => r, nilr _ rfl (rep_nil r (fun u z => by cases z) (fun z => by cases z)), fun j a _ _ ha => by rw [rep_nil r (fun u z => by cases z) (fun z => by cases z)] at ha; cases ha⟩
    | ks => exact ⟨.inl r, (fun z => by cases z), al _ rfl, di⟩
    | ls u => exact ⟨.inl r, (fun z => by cases z), al _ rfl, di⟩
  | ref t =>
    have r : Rep g.K H t v (e.getD i .none) (f i) := h2.1
    cases t with
    | sh => exact ⟨.inl r, fun _ => r, nilr _ rfl (rep_nil r (fun u z => by cases z) (fun z => by cases z)), fun j a _ _ ha => by rw [rep_nil r (fun u z => by cases z) (fun z => by cases z)] at ha; cases ha⟩
    | ks => exact ⟨.inl r, (fun z => by cases z), al _ rfl, di⟩
    | ls u => exact ⟨.inl r, (fun z => by cases z), al _ rfl, di⟩
  | bor t =>
    have r : Rv g.K H t v (e.getD i .none) (f i) := h2
    cases t with
    | sh =>
      have z : f i = [] := by
        rcases r with r | r
        · exact rep_nil r (fun u z => by cases z) (fun z => by cases z)
        · exact r.2
      refine ⟨r, fun _ => ?_, nilr _ rfl z, fun j a _ _ ha => by rw [z] at ha; cases ha⟩
      rcases r with r | r
      · exact r
      · rw [r.2]; exact .sh r.1
    | ks => exact ⟨r, (fun z => by cases z), al _ rfl, di⟩
    | ls u => exact ⟨r, (fun z => by cases z), al _ rfl, di⟩
theorem ok_con {x : V} {d : Dt} {e : Expr} (h : PE X e (tC x)) (s : ∀ H, Sh g.K H x d) : PE X e (tV g c W (mp d) .sh []) :=
  PE.imp h fun σ H Q ⟨e, f, rel, h⟩ => (show finV g c .sh [] σ Q d e e H f from h) x H f [] rel Stp.refl ⟨.inl (.sh (s H)), fun _ => .sh (s H), (fun _ z => by cases z), fun _ _ _ _ z => by cases z⟩
theorem ok_non : PE X (.Constant .none 0 p) (tV g c W (mp .none) .sh []) := ok_con pe_non fun _ => .non
theorem ok_bl {b : Bool} : PE X (.Constant (.bool b) 0 p) (tV g c W (mp (.bool b)) .sh []) := ok_con pe_bl fun _ => .bl b
theorem ok_int {n : Int} : PE X (.Constant (.int n) 0 p) (tV g c W (mp (.int n)) .sh []) := ok_con pe_int fun _ => .int n
theorem ok_str {x : Str} : PE X (.Constant (.str x) 0 p) (tV g c W (mp (.str x)) .sh []) := ok_con pe_str fun _ => .str x

/-! ### operators -/
def flatT : Ty → Bool
  | .sh => true
  | .ls .sh => true
  | _ => false
theorem flat_cases {t : Ty} (h : flatT t = true) : t = .sh ∨ t = .ls .sh := by
  cases t with
  | sh => exact .inl rfl
  | ls u => cases u <;> simp [flatT] at h ⊢
  | ks => simp [flatT] at h
theorem chk_ty {t : Ty} {d d' : Dt} (h : chkT t d = some d') : d' = d ∧ t = tyD d := by
  unfold chkT at h
  split at h
  · cases h
  · cases h
    rename_i h0
    refine ⟨rfl, ?_⟩
    cases d <;> first | rfl | exact (h0 _ rfl).elim
  · cases h; exact ⟨rfl, rfl⟩
  · cases h
theorem New.K_eq {K K' : PySem.W.Frag} {H : Hp} {Q : VK} {t : Ty} {d : Dt} (h : K = K') (n : New K H Q t d) : New K' H Q t d := by subst h; exact n
theorem ok_bop {o : Operator} {t : Ty} (K : CxV g N sc lv W X) (ha : PE X a (tV g c W m1 T1 S1)) (hb : PE X b (tV g (lend c S1) W m2 T2 S2)) (h1 : flatT T1 = true) (h2 : flatT T2 = true) :
    PE X (.BinOp a o b p) (tV g c W (mb m1 fun x => mb m2 fun y => mo ((opB o x y).bind (chkT t))) t []) := by
  refine PE.imp (pe_op (opB_ok o) ha hb) fun σ H Q h => ?_
  refine two (T1 := T1) (T2 := T2) (fun x y d1 d2 d A B H Q r1 r2 e n => ?_) σ H Q h
  cases q : opB o d1 d2 with
  | none => rw [q] at e; cases e
  | some d3 =>
    rw [q] at e
    obtain ⟨rfl, ht⟩ := chk_ty (show chkT t d3 = some d from e)
    subst ht
    rw [K.hK]
    exact ⟨d1, d2, d, r1.vw (flat_cases h1), r2.vw (flat_cases h2), q, n⟩
theorem ok_neg (ha : PE X a (tV g c W m1 .sh S1)) : PE X (.UnaryOp .USub a p) (tV g c W (mb m1 fun x => mo (negD x)) .sh []) := by
  refine PE.imp (pe_un un_neg ha) fun σ H Q h => ?_
  refine one (T1 := .sh) (fun x d1 d A H Q r1 e n => ?_) σ H Q h
  unfold negD at e
  split at e
  · cases e
    cases r1.int
    exact ⟨_, rfl, n.val (.int _)⟩
  · cases e
theorem tru_of {K : PySem.W.Frag} {H : Hp} {v : V} {d : Dt} {b : Bool} (h : RvS K H v d) (e : truD d = some b) : TruV K v H b := by
  unfold truD at e
  split at e
  · cases e; rw [h.bool]; exact rfl
  · cases e
    rcases h with h | ⟨A, h⟩
    · rw [h.none]; exact rfl
    · cases h
  · cases e; rw [h.int]; exact rfl
  · cases e
    obtain ⟨a, xs, rfl, q, s⟩ := h.lst
    refine .inl ⟨xs, q, ?_⟩
    have l := s.length
    cases s <;> rfl
  · cases e
    obtain ⟨a, xs, rfl, q, s⟩ := h.tup
    refine .inr (.inl ⟨xs, q, ?_⟩)
    cases s <;> rfl
  · cases e
theorem Rv.rvs {K : PySem.W.Frag} {H : Hp} {t : Ty} {v : V} {d : Dt} {A : List Addr} (h : Rv K H t v d A) (ht : flatT t = true ∨ t = .ks) : RvS K H v d := by
  rcases ht with ht | ht
  · exact .inl (h.vw (flat_cases ht))
  · rcases h with h | h
    · subst ht; exact .inr ⟨A, h⟩
    · exact .inl (.inl h.1)
theorem ok_not (K : CxV g N sc lv W X) (ha : PE X a (tV g c W m1 T1 S1)) (h1 : flatT T1 = true) : PE X (.UnaryOp .Not a p) (tV g c W (mb m1 fun x => mo ((truD x).map fun b => .bool (!b))) .sh []) := by
  refine PE.imp (pe_notT ha) fun σ H Q h => ?_
  refine one (T1 := T1) (r := fun x H1 Q => ∃ k, TruV X.K x H1 k ∧ Q (.bl (!k)) H1) (fun x d1 d A H Q r1 e n => ?_) σ H Q h
  simp only [Option.map_eq_some_iff] at e
  obtain ⟨k, hk, rfl⟩ := e
  rw [K.hK]
  exact ⟨k, tru_of (r1.rvs (.inl h1)) hk, n.val (.bl _)⟩
theorem ok_cmp {o : CmpOp} (K : CxV g N sc lv W X) (ha : PE X a (tV g c W m1 T1 S1)) (hb : PE X b (tV g (lend c S1) W m2 T2 S2)) (h1 : flatT T1 = true) (h2 : flatT T2 = true) (hm : behindInMarks o b = false) :
    PE X (.Compare a [o] [b] p) (tV g c W (mb m1 fun x => mb m2 fun y => mo ((opC o x y).map .bool)) .sh []) := by
  have hu : X.A.units + 65 < cLine := by have := K.room.un; omega
  refine PE.imp (pe_cmpR (opC_ok o hu) ha hb hm) fun σ H Q h => ?_
  refine two (T1 := T1) (T2 := T2) (fun x y d1 d2 d A B H Q r1 r2 e n => ?_) σ H Q h
  simp only [Option.map_eq_some_iff] at e
  obtain ⟨k, hk, rfl⟩ := e
  rw [K.hK]
  exact ⟨d1, d2, k, r1.vw (flat_cases h1), r2.vw (flat_cases h2), hk, n.val (.bl _)⟩
theorem ok_cmpT {o : CmpOp} (K : CxV g N sc lv W X) (ha : PE X a (tV g c W m1 T1 S1)) (hb : PE X b (tV g (lend c S1) W m2 T2 S2)) (h1 : flatT T1 = true) (h2 : flatT T2 = true) (hm : behindInMarks o b = false) :
    PT X (.Compare a [o] [b] p) (tT g c W (mb m1 fun x => mb m2 fun y => mo (opC o x y))) := by
  have hu : X.A.units + 65 < cLine := by have := K.room.un; omega
  refine PT.imp (pt_cmpR (opC_ok o hu) ha hb hm) fun σ H Q h => ?_
  refine twoT (T1 := T1) (T2 := T2) (fun x y d1 d2 k A B H Q r1 r2 hk n => ?_) σ H Q h
  rw [K.hK]
  exact ⟨d1, d2, k, r1.vw (flat_cases h1), r2.vw (flat_cases h2), hk, n⟩
/-- any value as a test -/
theorem ok_tru (K : CxV g N sc lv W X) (ha : PE X a (tV g c W m1 T1 S1)) (h1 : flatT T1 = true) (he : ∀ whole, isTrue a X.env whole = (do let v ← whole; standAt a.pos; holding [v] (truthy v))) :
    PT X a (tT g c W (mb m1 fun x => mo (truD x))) := by
  refine PT.imp (pt_truth ha he) fun σ H Q h => ?_
  refine oneT (T1 := T1) (r := fun x H1 Q => ∃ k, TruV X.K x H1 k ∧ Q k H1) (fun x d1 k A H Q r1 e n => ?_) σ H Q h
  rw [K.hK]
  exact ⟨k, tru_of (r1.rvs (.inl h1)) e, n⟩
end
end VL


set_option Elab.async false
set_option linter.all false
set_option maxRecDepth 100000
set_option maxHeartbeats 1000000
/-! VL5: more expressions. -/
namespace VL
open PySem PySem.Spec PyProof.Rows L2
section
variable {g : G} {c : Cn} {W : WX} {N : List Str} {sc : Scope} {lv : Nat} {X : Cx} {a b d3 : Expr} {T T1 T2 T3 : Ty} {S S1 S2 S3 : List Nat} {m1 m2 m3 : M Dt} {k1 k2 : M Bool} {p : Pos}

/-! ### chains, and, or -/
theorem chain_h {o o' : CmpOp} (K : CxV g N sc lv W X) (h3 : flatT T3 = true) {σ : L2.St} {H : Hp} {Q : VK}
    (h : tV g c W (mb m1 fun x => mb m2 fun y => mb (mo (opC o x y)) fun k => match k with | true => mb m3 fun z => mo ((opC o' y z).map .bool) | false => mp (.bool false)) .sh [] σ H Q) :
    tChain (rC X.K o) (rC X.K o') (tV g c W m1 .sh []) (tV g c W m2 .sh []) (tV g c W m3 T3 S3) σ H Q := by
  obtain ⟨e, f, rel, h⟩ := h
  refine ⟨e, f, rel, at_mono (at_bind shfV h) fun d1 e1 h1 v1 H1 f1 A1 rel1 st1 res1 => ?_⟩
  refine ⟨e1, f1, rel1, at_mono (at_bind shfV (h1 H1 f1 st1)) fun d2 e2 h2 v2 H2 f2 A2 rel2 st2 res2 => ?_⟩
  have h2' := h2 H2 f2 st2
  have im : Im H1 H2 := rel1.im st2.fr
  obtain ⟨k, hk, h3'⟩ := at_mo (at_bind shfV h2')
  have r1 : Sh g.K H2 v1 d1 := by
    have z := res1.rep rfl
    cases z with | sh z => exact z.mono im
  have r2 : Sh g.K H2 v2 d2 := by
    have z := res2.rep rfl
    cases z with | sh z => exact z
  refine ⟨d1, d2, k, ?_, ?_, hk, k, rfl, ?_⟩
  · rw [K.hK]; exact .inl r1
  · rw [K.hK]; exact .inl r2
  have h4 := h3' H2 f2 Stp.refl
  cases k with
  | true =>
    rw [if_pos rfl]
    refine ⟨e2, f2, rel2, at_mono (at_bind shfV h4) fun d3 e3 h5 v3 H3 f3 A3 rel3 st3 res3 => ?_⟩
    obtain ⟨d, hd, hf⟩ := at_mo (h5 H3 f3 st3)
    simp only [Option.map_eq_some_iff] at hd
    obtain ⟨k', hk', rfl⟩ := hd
    refine ⟨d2, d3, k', ?_, ?_, hk', ?_⟩
    · rw [K.hK]; exact .inl (r2.mono (rel2.im st3.fr))
    · rw [K.hK]; exact res3.rv.vw (flat_cases h3)
    · exact (fin_new (T := .sh) rel3 Stp.refl hf).val (.bl _)
  | false =>
    rw [if_neg Bool.false_ne_true]
    have h5 : finV g c .sh [] σ Q (.bool false) e2 e2 H2 f2 := h4
    exact (fin_new (T := .sh) rel2 Stp.refl h5).val (.bl _)
theorem ok_cmp2 {o o' : CmpOp} (K : CxV g N sc lv W X) (ha : PE X a (tV g c W m1 .sh [])) (hb : PE X b (tV g c W m2 .sh [])) (hc : PE X d3 (tV g c W m3 T3 S3)) (h3 : flatT T3 = true) (hm : lastMarks [o, o'] [b, d3] = false) :
    PE X (.Compare a [o, o'] [b, d3] p) (tV g c W (mb m1 fun x => mb m2 fun y => mb (mo (opC o x y)) fun k => match k with | true => mb m3 fun z => mo ((opC o' y z).map .bool) | false => mp (.bool false)) .sh []) := by
  have hu : X.A.units + 65 < cLine := by have := K.room.un; omega
  exact PE.imp (pe_chain (opC_ok o hu) (opC_ok o' hu) ha hb hc hm) fun σ H Q h => chain_h K h3 h
theorem ok_cmp2T {o o' : CmpOp} (K : CxV g N sc lv W X) (ha : PE X a (tV g c W m1 .sh [])) (hb : PE X b (tV g c W m2 .sh [])) (hc : PE X d3 (tV g c W m3 T3 S3)) (h3 : flatT T3 = true) (hm : lastMarks [o, o'] [b, d3] = false) :
    PT X (.Compare a [o, o'] [b, d3] p) (tT g c W (mb m1 fun x => mb m2 fun y => mb (mo (opC o x y)) fun k => match k with | true => mb m3 fun z => mo (opC o' y z) | false => mp false)) := by
  have hu : X.A.units + 65 < cLine := by have := K.room.un; omega
  refine PT.imp (pt_chain (opC_ok o hu) (opC_ok o' hu) ha hb hc hm) fun σ H Q h => ?_
  obtain ⟨e, f, rel, h⟩ := h
  show tChain _ _ _ _ _ σ H _
  refine chain_h (Q := fun x H' => ∃ k, x = .bl k ∧ Q k H') K h3 ⟨e, f, rel, ?_⟩
  unfold at_ at h ⊢
  unfold mb at h ⊢
  cases q1 : m1 e with
  | err => rw [q1] at h; exact h
  | exc x xs => rw [q1] at h; exact h
  | ok r =>
    obtain ⟨d1, e1⟩ := r
    rw [q1] at h
    simp only at h ⊢
    cases q2 : m2 e1 with
    | err => rw [q2] at h; exact h
    | exc x xs => rw [q2] at h; exact h
    | ok r =>
      obtain ⟨d2, e2⟩ := r
      rw [q2] at h
      simp only [mo] at h ⊢
      cases q3 : opC o d1 d2 with
      | none => rw [q3] at h; exact h
      | some k =>
        rw [q3] at h
        cases k with
        | false => exact fun v H' f' A rel' st' r' => ⟨false, by have z := r'.rep rfl; cases z with | sh z => cases z; rfl, h H' f' rel' st'⟩
        | true =>
          simp only at h ⊢
          cases q4 : m3 e2 with
          | err => rw [q4] at h; exact h
          | exc x xs => rw [q4] at h; exact h
          | ok r =>
            obtain ⟨d3, e3⟩ := r
            rw [q4] at h
            simp only at h ⊢
            cases q5 : opC o' d2 d3 with
            | none => rw [q5] at h; exact h
            | some k => rw [q5] at h; exact fun v H' f' A rel' st' r' => ⟨k, by have z := r'.rep rfl; cases z with | sh z => cases z; rfl, h H' f' rel' st'⟩
theorem ok_one {op : BoolOp} (h : PE X a (tV g c W m1 T S)) : PE X (.BoolOp op [a] p) (tV g c W m1 T S) := pe_one h
theorem ok_and {r : List Expr} (ha : PE X a (tV g c W m1 .sh [])) (hb : PE X (.BoolOp .And (b :: r) p) (tV g c W m2 .sh [])) :
    PE X (.BoolOp .And (a :: b :: r) p) (tV g c W (mb m1 fun x => match x with | .bool true => m2 | .bool false => mp (.bool false) | _ => fun _ => .err) .sh []) := by
  refine PE.imp (pe_and ha hb) fun σ H Q h => ?_
  obtain ⟨e, f, rel, h⟩ := h
  refine ⟨e, f, rel, at_mono (at_bind shfV h) fun d1 e1 h1 v1 H1 f1 A1 rel1 st1 res1 => ?_⟩
  have h1' := h1 H1 f1 st1
  have r1 : Rep g.K H1 .sh v1 d1 A1 := res1.rep rfl
  split at h1'
  · cases r1 with | sh z => cases z; exact ⟨true, rfl, by rw [if_pos rfl]; exact ⟨e1, f1, rel1, h1'⟩⟩
  · cases r1 with
    | sh z =>
      cases z
      refine ⟨false, rfl, ?_⟩
      rw [if_neg Bool.false_ne_true]
      have h5 : finV g c .sh [] σ Q (.bool false) e1 e1 H1 f1 := h1'
      exact (fin_new (T := .sh) rel1 Stp.refl h5).val (.bl _)
  · exact h1'.elim
theorem ok_or {r : List Expr} (ha : PE X a (tV g c W m1 .sh [])) (hb : PE X (.BoolOp .Or (b :: r) p) (tV g c W m2 .sh [])) :
    PE X (.BoolOp .Or (a :: b :: r) p) (tV g c W (mb m1 fun x => match x with | .bool false => m2 | .bool true => mp (.bool true) | _ => fun _ => .err) .sh []) := by
  refine PE.imp (pe_or ha hb) fun σ H Q h => ?_
  obtain ⟨e, f, rel, h⟩ := h
  refine ⟨e, f, rel, at_mono (at_bind shfV h) fun d1 e1 h1 v1 H1 f1 A1 rel1 st1 res1 => ?_⟩
  have h1' := h1 H1 f1 st1
  have r1 : Rep g.K H1 .sh v1 d1 A1 := res1.rep rfl
  split at h1'
  · cases r1 with | sh z => cases z; exact ⟨false, rfl, by rw [if_neg Bool.false_ne_true]; exact ⟨e1, f1, rel1, h1'⟩⟩
  · cases r1 with
    | sh z =>
      cases z
      refine ⟨true, rfl, ?_⟩
      rw [if_pos rfl]
      have h5 : finV g c .sh [] σ Q (.bool true) e1 e1 H1 f1 := h1'
      exact (fin_new (T := .sh) rel1 Stp.refl h5).val (.bl _)
  · exact h1'.elim
/-! tests -/
theorem ok_andT {r : List Expr} (ha : PT X a (tT g c W k1)) (hb : PW X (.BoolOp .And (b :: r) p) (tT g c W k2)) :
    PW X (.BoolOp .And (a :: b :: r) p) (tT g c W (mb k1 fun k => match k with | true => k2 | false => mp false)) := by
  refine ⟨fun wh pins s σ H Q I h => (pw_and ha hb).run wh pins s σ H Q I ?_⟩
  obtain ⟨e, f, rel, h⟩ := h
  refine ⟨e, f, rel, at_mono (at_bind shfT h) fun k e1 h1 H1 f1 rel1 st1 => ?_⟩
  have h1' := h1 H1 f1 st1
  cases k with
  | true => exact iteT ⟨e1, f1, rel1, h1'⟩
  | false =>
    exact iteF ((show finT g c σ Q false e1 e1 H1 f1 from h1') H1 f1 rel1 Stp.refl)
theorem ok_orT {r : List Expr} (ha : PT X a (tT g c W k1)) (hb : PW X (.BoolOp .Or (b :: r) p) (tT g c W k2)) :
    PW X (.BoolOp .Or (a :: b :: r) p) (tT g c W (mb k1 fun k => match k with | true => mp true | false => k2)) := by
  refine ⟨fun wh pins s σ H Q I h => (pw_or ha hb).run wh pins s σ H Q I ?_⟩
  obtain ⟨e, f, rel, h⟩ := h
  refine ⟨e, f, rel, at_mono (at_bind shfT h) fun k e1 h1 H1 f1 rel1 st1 => ?_⟩
  have h1' := h1 H1 f1 st1
  cases k with
  | false => exact iteF ⟨e1, f1, rel1, h1'⟩
  | true =>
    exact iteT ((show finT g c σ Q true e1 e1 H1 f1 from h1') H1 f1 rel1 Stp.refl)
theorem ok_notT (ha : PT X a (tT g c W k1)) : PT X (.UnaryOp .Not a p) (tT g c W (mb k1 fun k => mp (!k))) := by
  refine PT.imp (pt_not ha) fun σ H Q h => ?_
  obtain ⟨e, f, rel, h⟩ := h
  refine ⟨e, f, rel, at_mono (at_bind shfT h) fun k e1 h1 H1 f1 rel1 st1 => ?_⟩
  exact (show finT g c σ Q (!k) e1 e1 H1 f1 from h1 H1 f1 st1) H1 f1 rel1 Stp.refl
theorem ok_ife {t : Expr} (hc : PT X t (tT g c W k1)) (ha : PE X a (tV g c W m1 T S)) (hb : PE X b (tV g c W m2 T S)) :
    PE X (.IfExp t a b p) (tV g c W (mb k1 fun k => match k with | true => m1 | false => m2) T S) := by
  refine PE.imp (pe_ifExp hc ha hb) fun σ H Q h => ?_
  obtain ⟨e, f, rel, h⟩ := h
  refine ⟨e, f, rel, at_mono (at_bind shfV h) fun k e1 h1 H1 f1 rel1 st1 => ?_⟩
  have h1' := h1 H1 f1 st1
  cases k with
  | true => exact iteT ⟨e1, f1, rel1, h1'⟩
  | false => exact iteF ⟨e1, f1, rel1, h1'⟩

/-! ### displays -/
variable {l1 : M (List Dt)} {es : List Expr}
theorem ok_anil : PA X [] (tL g c W (mp []) T) := PA.imp pa_nil fun σ H Q ⟨e, f, rel, h⟩ =>
  (show finL g c T σ Q [] e e H f from h) [] H f [] rel Stp.refl .nil (fun _ z => by cases z) (fun _ _ _ z => by cases z)
/-- from the very start -/
theorem at_abs {α β : Type} {F : Fn_ β} {m1 : M α} {k : α → M β} {e : Ev} {f : Ft} {σ : L2.St} {H : Hp} (h : at_ g c W F (mb m1 k) e f σ H) :
    at_ g c W (fun x e1 _ _ _ => at_ g c W (fun y e2 _ _ _ => F y e2 e H f) (k x) e1 f σ H) m1 e f σ H := by
  unfold at_ mb at h
  unfold at_
  cases q : m1 e with
  | err => rw [q] at h; exact h
  | exc x xs => rw [q] at h; exact h
  | ok p => obtain ⟨x, e1⟩ := p; rw [q] at h; exact h
theorem at_move {α : Type} {F : α → Ev → Prop} {m1 : M α} {e e0 e1 : Ev} {f f1 : Ft} {σ : L2.St} {H H1 : Hp} (h : at_ g c W (fun x e2 _ _ _ => F x e2) m1 e f σ H) (s : Stp c e0 H f e1 H1 f1) :
    at_ g c W (fun x e2 _ _ _ => F x e2) m1 e f1 σ H1 := by
  unfold at_ at h ⊢
  cases q : m1 e with
  | err => rw [q] at h; exact h
  | exc x xs => rw [q] at h; exact Xst.later h s
  | ok p => rw [q] at h; exact h
theorem ok_acons (ha : PE X a (tV g c W m1 T [])) (hb : PA X es (tL g c W l1 T)) (hs : starEach (a :: es) X.env = (false, eval a X.env) :: starEach es X.env) :
    PA X (a :: es) (tL g c W (mb m1 fun x => mb l1 fun xs => mp (x :: xs)) T) := by
  refine PA.imp (pa_cons ha hb hs) fun σ H Q h => ?_
  obtain ⟨e, f, rel, h⟩ := h
  refine ⟨e, f, rel, at_mono (at_abs h) fun d1 e1 h1 v1 H1 f1 A1 rel1 st1 res1 => ?_⟩
  refine ⟨e1, f1, rel1, at_mono (at_abs (at_move h1 st1)) fun ds e2 h2 vs H2 f2 A2 rel2 st2 r2 n2 x2 => ?_⟩
  have h3 : finL g c T σ Q (d1 :: ds) e2 e H f := h2
  have im : Im H1 H2 := rel1.im st2.fr
  have k1 : ∀ a ∈ A1, ∀ o, H1 a = some o → H2 a = some o := fun a ha o q => by
    refine st2.fr a o q (fun i ho hm => res1.dis i a ho (by simp) ha hm) (fun ps z => ?_)
    obtain ⟨xs, q'⟩ := res1.rv.foot a ha
    rw [z, q'] at q; cases q
  have r1 := (res1.rep rfl).mono im k1
  have tr1 : ∀ a ∈ A1, H1 a ≠ none := fun a ha z => by obtain ⟨xs, q'⟩ := res1.rv.foot a ha; rw [z] at q'; cases q'
  refine h3 (v1 :: vs) H2 f2 (A1 ++ A2) rel2 (st1.trans st2) (.cons r1 r2 fun a h1 h2 => tr1 a h1 (n2 a h2)) (fun a ha => ?_) (fun i a ho ha hm => ?_)
  · rcases List.mem_append.mp ha with ha | ha
    · rcases res1.new a ha with z | ⟨i, hi, _⟩
      · exact z
      · cases hi
    · exact st1.old a (n2 a ha)
  · rcases List.mem_append.mp ha with ha | ha
    · rcases st2.gro i a ho hm with ⟨j, hj, z, _⟩ | z
      · exact res1.dis j a hj (by simp) ha z
      · exact tr1 a ha z
    · exact x2 i a ho ha hm
theorem ok_tup (h : PA X es (tL g c W l1 .sh)) : PE X (.Tuple es 0 p) (tV g c W (mb l1 fun xs => mo (if xs.length ≤ sizeLine then some (.tuple xs) else none)) .sh []) := by
  refine PE.imp (pe_tup h) fun σ H Q h => ?_
  obtain ⟨e, f, rel, h⟩ := h
  refine ⟨e, f, rel, at_mono (at_bind shfV h) fun ds e1 h1 vs H1 f1 A1 rel1 st1 r1 n1 x1 => ?_⟩
  obtain ⟨d, hd, hf⟩ := at_mo (h1 H1 f1 st1)
  split at hd
  · rename_i hl
    cases hd
    have s1 := (RepA.sh r1).1
    exact ⟨by rw [s1.length]; exact hl, fun q hq => (fin_new (T := .sh) rel1 Stp.refl hf).tup s1 hq⟩
  · cases hd
theorem ok_lst (h : PA X es (tL g c W l1 T)) : PE X (.List es p) (tV g c W (mb l1 fun xs => mo (if xs.length ≤ sizeLine then some (.list xs) else none)) (.ls T) []) := by
  refine PE.imp (pe_lst h) fun σ H Q h => ?_
  obtain ⟨e, f, rel, h⟩ := h
  refine ⟨e, f, rel, at_mono (at_abs h) fun ds e1 h1 vs H1 f1 A1 rel1 st1 r1 n1 x1 => ?_⟩
  obtain ⟨d, hd, hf⟩ := at_mo h1
  split at hd
  · rename_i hl
    cases hd
    refine ⟨by rw [r1.length]; exact hl, fun q hq => ?_⟩
    have hf : finV g c (.ls T) [] σ Q (.list ds) e1 e H f := hf
    have sm := same_upd (o := .lst vs) hq
    have tr1 : ∀ a ∈ A1, H1 a ≠ none := fun a ha z => by obtain ⟨xs, q'⟩ := r1.foot a ha; rw [z] at q'; cases q'
    have rp : Rep g.K (upd H1 q (.lst vs)) (.ls T) (.ref q) (.list ds) (q :: A1) := .ls upd_same (r1.mono (Im.of sm) fun a _ o z => sm a o z) (fun z => tr1 q z hq)
    refine hf (.ref q) _ f1 (q :: A1) (rel1.ext sm (g.tm _ _ (fun a o z _ _ => sm a o z) rel1.tabs)) (st1.trans (Stp.ext sm)) ⟨.inl rp, fun _ => rp, fun a ha => ?_, fun i a ho _ ha hm => ?_⟩
    · rcases List.mem_cons.mp ha with e | ha
      · rw [e]; exact .inl (st1.old q hq)
      · exact .inl (n1 a ha)
    · rcases List.mem_cons.mp ha with e | ha
      · obtain ⟨xs, z⟩ := rel1.foot i a hm
        rw [e, hq] at z; cases z
      · exact x1 i a ho ha hm
  · cases hd

/-! ### items, slices -/
theorem ok_sub (K : CxV g N sc lv W X) (ha : PE X a (tV g c W m1 T1 S1)) (hb : PE X b (tV g (lend c S1) W m2 .sh [])) (hs : PlainIx b) (hk : itTy T1 ≠ .ks) (hS : itTy T1 = .sh ∨ S1 ≠ []) :
    PE X (.Subscript a b p) (tV g c W (mb m1 fun x => mb m2 fun y => mo (subD x y)) (itTy T1) (match itTy T1 with | .ls _ => S1 | _ => [])) := by
  refine PE.imp (pe_ix (sub_ok (by have := K.room.un; omega)) ha hb hs) fun σ H Q h => ?_
  obtain ⟨e, f, rel, h⟩ := h
  refine ⟨e, f, rel, at_mono (at_abs h) fun d1 e1 h1 v1 H1 f1 A1 rel1 st1 res1 => ?_⟩
  refine ⟨e1, f1, rel1.lend S1, at_mono (at_lend (at_abs (at_move h1 st1)) S1) fun d2 e2 h2 v2 H2 f2 A2 rel2 st2 res2 => ?_⟩
  have rel2' := rel2.back rel1 st2
  have st2' := st2.lent rel1
  obtain ⟨d, hd, hf⟩ := at_mo h2
  have hf : finV g c (itTy T1) _ σ Q d e2 e H f := hf
  obtain ⟨rv1, rp1⟩ := res1.hold rel1 st2
  rw [K.hK]
  refine ⟨T1, d1, d2, d, A1, A2, rv1, res2.rv, hd, fun w C rw hC => ?_⟩
  have tr1 : ∀ a ∈ A1, H1 a ≠ none := fun a ha z => by obtain ⟨xs, q'⟩ := res1.rv.foot a ha; rw [z] at q'; cases q'
  have nl : ∀ {t : Ty} {C : List Addr}, (∀ u, t ≠ .ls u) → t ≠ .ks → Rv g.K H2 t w d C → C = [] := fun {t C} n n2 r => by
    rcases r with r | r
    · exact rep_nil r n n2
    · exact r.2
  cases ht : itTy T1 with
  | sh =>
    rw [ht] at rw hf
    have z := nl (fun u z => by cases z) (fun z => by cases z) rw
    subst z
    refine hf w H2 f2 [] rel2' (st1.trans st2') ⟨rw, fun _ => ?_, (fun _ z => by cases z), fun _ _ _ _ z => by cases z⟩
    rcases rw with r | r
    · exact r
    · exact .sh r.1
  | ks => exact absurd ht hk
  | ls u =>
    rw [ht] at rw hf
    refine hf w H2 f2 C rel2' (st1.trans st2') ⟨rw, fun z => ?_, fun a ha => ?_, fun i a ho hi ha hm => ?_⟩
    · have z : S1 = [] := z
      rcases hS with y | y
      · rw [ht] at y; cases y
      · exact absurd z y
    · rcases res1.new a (hC a ha) with z | ⟨i, hi, hm⟩
      · exact .inl z
      · refine .inr ⟨i, hi, ?_⟩
        have q : ownS ((lend c S1).getD i .no) = false := by
          cases q : ownS ((lend c S1).getD i .no) with
          | false => rfl
          | true => exact absurd hi (lend_own q).1
        rw [(st2.keep i q).1]
        exact hm
    · have hi : i ∉ S1 := hi
      rcases st2.gro i a (lend_own' hi ho) hm with ⟨j, hj, z, _⟩ | z
      · exact res1.dis j a (lend_own hj).2 (lend_own hj).1 (hC a ha) z
      · exact tr1 a (hC a ha) z
end
end VL


set_option Elab.async false
set_option linter.all false
set_option maxRecDepth 100000
set_option maxHeartbeats 1000000
/-! VL6: slices, builtins, isinstance, freezing, calls. -/
namespace VL
open PySem PySem.Spec PyProof.Rows L2
section
variable {g : G} {c : Cn} {W : WX} {N : List Str} {sc : Scope} {lv : Nat} {X : Cx} {a b d3 : Expr} {T T1 T2 T3 : Ty} {S S1 S2 S3 : List Nat} {m1 m2 m3 : M Dt} {k1 k2 : M Bool} {o1 o2 : M (Option Int)} {p q q2 q3 : Pos}

theorem ok_onone : PO X none (tO g c W (mp none)) := ⟨fun pins s σ H Q I h => po_none.run pins s σ H Q I (by
  obtain ⟨e, f, rel, h⟩ := h
  exact (show finO g c σ Q none e e H f from h) H f rel Stp.refl)⟩
theorem ok_osome (h : PE X a (tV g c W m1 .sh [])) : PO X (some a) (tO g c W (mb m1 fun x => mo (intO x))) := ⟨fun pins s σ H Q I h' => (po_some h).run pins s σ H Q I (by
  obtain ⟨e, f, rel, h⟩ := h'
  refine ⟨e, f, rel, at_mono (at_bind shfO h) fun d1 e1 h1 v1 H1 f1 A1 rel1 st1 res1 => ?_⟩
  obtain ⟨d, hd, hf⟩ := at_mo (h1 H1 f1 st1)
  unfold intO at hd
  split at hd
  · cases hd
    exact ⟨_, res1.rv.int, hf H1 f1 rel1 Stp.refl⟩
  · cases hd)⟩
theorem ok_slc {t : Ty} {lo hi : Option Expr} (K : CxV g N sc lv W X) (ha : PE X a (tV g c W m1 T1 S1)) (hl : PO X lo (tO g (lend c S1) W o1)) (hu : PO X hi (tO g (lend c S1) W o2)) (h1 : flatT T1 = true ∨ T1 = .ks) :
    PE X (.Subscript a (.Slice lo hi none q) p) (tV g c W (mb m1 fun x => mb o1 fun l => mb o2 fun h => mo ((slcD x l h).bind (chkT t))) t []) := by
  refine PE.imp (pe_slice slc_ok ha hl hu) fun σ H Q h => ?_
  obtain ⟨e, f, rel, h⟩ := h
  refine ⟨e, f, rel, at_mono (at_bind shfV h) fun d1 e1 h1' v1 H1 f1 A1 rel1 st1 res1 => ?_⟩
  refine ⟨e1, f1, rel1.lend S1, at_mono (at_lend (at_bind shfV (h1' H1 f1 st1)) S1) fun l e2 h2 H2 f2 rel2 st2 => ?_⟩
  have rel2' := rel2.back rel1 st2
  have st2' := st2.lent rel1
  refine ⟨e2, f2, rel2, at_mono (at_lend (at_bind shfV (h2 H2 f2 st2')) S1) fun u e3 h3 H3 f3 rel3 st3 => ?_⟩
  have rel3' := rel3.back rel2' st3
  have st3' := st3.lent rel2'
  obtain ⟨d, hd, hf⟩ := at_mo (h3 H3 f3 st3')
  cases hq : slcD d1 l u with
  | none => rw [hq] at hd; cases hd
  | some d3 =>
    rw [hq] at hd
    obtain ⟨rfl, ht⟩ := chk_ty (show chkT t d3 = some d from hd)
    subst ht
    rw [K.hK]
    refine ⟨d1, d, ((res1.hold rel1 (st2.trans st3)).1).rvs h1, hq, fin_new rel3' Stp.refl hf⟩

/-! ### builtins -/
def glB (sc : Scope) (x : Str) : Bool := sc.names.lookup x == some .globalImplicit
theorem gl_of (K : CxV g N sc lv W X) {x : Str} (h : glB sc x = true) : Gl X x := by
  show X.env.scope.names.lookup x = _
  rw [K.hsc]
  simpa [glB] using h
theorem boot_b1 (f : B1) : bootBuiltins (Str.ofString f.name) = some f.val := by
  cases f <;> (simp only [B1.name, B1.val]; decide +kernel)
theorem b1_mg (K : CxV g N sc lv W X) (f : B1) : X.mg (Str.ofString f.name) = none := by
  cases f <;> exact K.bt _ (by simp [B1.name])
theorem star1 {e : Expr} {env : Env} (h : starEach [e] env = (false, eval e env) :: starEach [] env) : (backTo p (starEach ([] : List Expr) env)).any (·.1) = false := rfl
theorem ok_b1 {f : B1} (K : CxV g N sc lv W X) (ha : PE X a (tV g c W m1 T1 S1)) (h1 : flatT T1 = true ∨ T1 = .ks) (hg : glB sc (Str.ofString f.name) = true) (hs : starEach [a] X.env = (false, eval a X.env) :: starEach [] X.env) :
    PE X (.Call (.Name (Str.ofString f.name) q) [a] [] p) (tV g c W (mb m1 fun x => mo (apB1 f x)) f.ty []) := by
  have hv := boot_b1 f
  have hm := b1_mg K f
  have hc := b1_ok (X := X) f K.calm (by have := K.room.un; omega)
  have hg' := gl_of K hg
  have fin : ∀ σ H Q, tV g c W (mb m1 fun x => mo (apB1 f x)) f.ty [] σ H Q → tCB (rB1 X.K f) (tCons (tV g c W m1 T1 S1) tNil) σ H Q := fun σ H Q h => by
    refine one (T1 := T1) (S1 := S1) (r := fun x H1 Q => rB1 X.K f [x] H1 Q) (fun x d1 d A H Q r1 e n => ?_) σ H Q h
    rw [K.hK]
    exact ⟨x, d1, d, rfl, r1.rvs h1, e, n⟩
  have ne : (Str.ofString f.name) ≠ "__name__" := by cases f <;> (simp only [B1.name]; decide)
  have nd : ((Str.ofString f.name) == ("__debug__" : Str)) = false := by cases f <;> (simp only [B1.name]; decide)
  cases f with
  | list => exact PE.imp (pe_callTy hc hg' hm hv (pa_cons ha pa_nil hs) ne nd hs rfl) fin
  | tuple => exact PE.imp (pe_callTy hc hg' hm hv (pa_cons ha pa_nil hs) ne nd hs rfl) fin
  | int => exact PE.imp (pe_callTy hc hg' hm hv (pa_cons ha pa_nil hs) ne nd hs rfl) fin
  | len => exact PE.imp (pe_callB hc hg' hm hv (pa_cons ha pa_nil hs) ne nd hs rfl) fin
  | all => exact PE.imp (pe_callB hc hg' hm hv (pa_cons ha pa_nil hs) ne nd hs rfl) fin
  | any => exact PE.imp (pe_callB hc hg' hm hv (pa_cons ha pa_nil hs) ne nd hs rfl) fin
  | sorted => exact PE.imp (pe_callB hc hg' hm hv (pa_cons ha pa_nil hs) ne nd hs rfl) fin
  | abs => exact PE.imp (pe_callB hc hg' hm hv (pa_cons ha pa_nil hs) ne nd hs rfl) fin
  | sum => exact PE.imp (pe_callB hc hg' hm hv (pa_cons ha pa_nil hs) ne nd hs rfl) fin
  | min => exact PE.imp (pe_callB hc hg' hm hv (pa_cons ha pa_nil hs) ne nd hs rfl) fin
  | max => exact PE.imp (pe_callB hc hg' hm hv (pa_cons ha pa_nil hs) ne nd hs rfl) fin
theorem boot_ic (i : Ic) : bootBuiltins (Str.ofString i.name) = some (.type i.name) := by
  cases i <;> (simp only [Ic.name]; decide +kernel)
theorem ok_isi {i : Ic} (K : CxV g N sc lv W X) (ha : PE X a (tV g c W m1 T1 S1)) (h1 : flatT T1 = true ∨ T1 = .ks) (hg : glB sc (Str.ofString "isinstance") = true) (hg2 : glB sc (Str.ofString i.name) = true)
    (hs : starEach [a, .Name (Str.ofString i.name) q2] X.env = (false, eval a X.env) :: starEach [.Name (Str.ofString i.name) q2] X.env) :
    PE X (.Call (.Name (Str.ofString "isinstance") q) [a, .Name (Str.ofString i.name) q2] [] p) (tV g c W (mb m1 fun x => mp (.bool (isiD x i))) .sh []) := by
  have hm : X.mg (Str.ofString i.name) = none := by cases i <;> exact K.bt _ (by simp [Ic.name])
  have ne : (Str.ofString i.name) ≠ "__name__" := by cases i <;> (simp only [Ic.name]; decide)
  have nd : ((Str.ofString i.name) == ("__debug__" : Str)) = false := by cases i <;> (simp only [Ic.name]; decide)
  have pt : PE X (.Name (Str.ofString i.name) q2) (tC (.ty i.name)) := pe_bltn (gl_of K hg2) hm (boot_ic i) rfl ne nd
  have hm0 : X.mg (Str.ofString "isinstance") = none := K.bt _ (by simp)
  refine PE.imp (pe_callB (isi_ok i) (gl_of K hg) hm0 (by decide +kernel) (pa_cons ha (pa_cons pt pa_nil) hs) (by decide) (by decide) hs rfl) fun σ H Q h => ?_
  obtain ⟨e, f, rel, h⟩ := h
  refine ⟨e, f, rel, at_mono (at_bind shfV h) fun d1 e1 h1' v1 H1 f1 A1 rel1 st1 res1 => ?_⟩
  have h2 : finV g c .sh [] σ Q (.bool (isiD d1 i)) e1 e1 H1 f1 := h1' H1 f1 st1
  rw [K.hK]
  exact ⟨v1, d1, rfl, res1.rv.rvs h1, (fin_new (T := .sh) rel1 Stp.refl h2).val (.bl _)⟩
theorem ok_isiT {i : Ic} (K : CxV g N sc lv W X) (ha : PE X a (tV g c W m1 T1 S1)) (h1 : flatT T1 = true ∨ T1 = .ks) (hg : glB sc (Str.ofString "isinstance") = true) (hg2 : glB sc (Str.ofString i.name) = true)
    (hs : starEach [a, .Name (Str.ofString i.name) q2] X.env = (false, eval a X.env) :: starEach [.Name (Str.ofString i.name) q2] X.env) :
    PT X (.Call (.Name (Str.ofString "isinstance") q) [a, .Name (Str.ofString i.name) q2] [] p) (tT g c W (mb m1 fun x => mp (isiD x i))) := by
  refine PT.imp (pt_val (ok_isi (c := c) (p := p) (q := q) K ha h1 hg hg2 hs)) fun σ H Q h => ?_
  obtain ⟨e, f, rel, h⟩ := h
  refine ⟨e, f, rel, ?_⟩
  have h1' := at_bind shfT h
  unfold at_ at h1' ⊢
  unfold mb
  cases q1 : m1 e with
  | err => rw [q1] at h1'; exact h1'
  | exc x xs => rw [q1] at h1'; exact h1'
  | ok r =>
    obtain ⟨d1, e1⟩ := r
    rw [q1] at h1'
    intro v H' f' A rel' st' r'
    have z := r'.rep rfl
    refine ⟨isiD d1 i, by cases z with | sh z => cases z; rfl, ?_⟩
    exact (show finT g c σ Q (isiD d1 i) e1 e1 H' f' from h1' H' f' st') H' f' rel' Stp.refl

/-! ### freezing -/
def noKs : Ty → Bool
  | .sh => true
  | .ls t => noKs t
  | .ks => false
theorem frz1 {pins : List (Addr × Obj)} {σ : L2.St} {H : Hp} {s : Shared} {l : Addr} {xs : List V} (I : L2.Inv X pins σ H s) (h : H l = some (.lst xs)) : ∃ o, L2.Inv X pins σ (upd H l (.frz o (.lst xs))) s := by
  have ok := I.hok l _ h
  obtain ⟨hz, its, n, r, e⟩ := (show ObjOk X.prog X.w H s.heap l (.lst xs) from ok)
  refine ⟨{ cls := .type "list", data := .seq its.toArray n }, ?_⟩
  have nb : ∀ b u, H b = some u → (∀ ys, u ≠ .lst ys) → b ≠ l := fun b u q n z => by subst z; rw [h] at q; cases q; exact n _ rfl
  have J := I.un (H' := upd H l (.frz { cls := .type "list", data := .seq its.toArray n } (.lst xs))) (h' := s.heap) (t' := s.toks)
    ⟨fun b ob q _ _ _ => q, fun b ob q _ _ _ => ⟨ob.slots, q⟩, fun b ob q n _ => by rw [upd_ne (fun z => by subst z; rw [h] at n; cases n)]; exact n, fun b ob q _ => ⟨ob, q⟩,
      fun b ys q => by rw [upd_ne (nb b _ q (fun ys z => by cases z))]; exact q, fun b ob ys q => by rw [upd_ne (nb b _ q (fun ys z => by cases z))]; exact q, fun b ys q => ⟨#[], by rw [upd_ne (nb b _ q (fun ys z => by cases z)), q]; simp⟩⟩
    (fun b u q => by
      by_cases hb : b = l
      · subst hb
        rw [upd_same] at q; cases q
        exact ⟨e, hz, its, n, r, e⟩
      · rw [upd_ne hb] at q
        exact (I.hok b u q).stay (fun c v _ k => k) (fun c k => by rw [upd_ne (nb c _ k (fun ys z => by cases z))]; exact k) fun c ys k => by rw [upd_ne (nb c _ k (fun ys z => by cases z))]; exact k)
  exact J
mutual
theorem frzR {pins : List (Addr × Obj)} {σ : L2.St} {s : Shared} {K : PySem.W.Frag} : ∀ {H : Hp} {t : Ty} {v : V} {d : Dt} {A : List Addr}, t ≠ .ks → (∀ u, t = .ls u → noKs u = true) → Rep K H t v d A → L2.Inv X pins σ H s →
    ∃ H', L2.Inv X pins σ H' s ∧ Sh K H' v d ∧ (∀ a, a ∉ A → H' a = H a) ∧ (∀ a ∈ A, ∃ o xs, H' a = some (.frz o (.lst xs)))
  | H, _, _, _, _, _, _, .sh h, I => ⟨H, I, h, fun _ _ => rfl, fun _ z => by cases z⟩
  | _, _, _, _, _, n, _, .ks h s, I => absurd rfl n
  | _, _, _, _, _, n, _, .kl h s, I => absurd rfl n
  | H, .ls t, _, _, _, _, nk, .ls (a := l) (xs := xs) e r n, I => by
    obtain ⟨H1, I1, s1, k1, z1⟩ := frzA (nk t rfl) r I
    have e1 : H1 l = some (.lst xs) := by rw [k1 l n]; exact e
    obtain ⟨o, I2⟩ := frz1 I1 e1
    refine ⟨_, I2, .lst ⟨o, upd_same⟩ (s1.mono fun b u q i => ?_), fun b hb => ?_, fun b hb => ?_⟩
    · rw [upd_ne (fun z => by subst z; rw [e1] at q; cases q; cases i)]; exact q
    · rw [upd_ne (fun z => hb (by rw [z]; exact List.mem_cons_self)), k1 b fun z => hb (List.mem_cons_of_mem _ z)]
    · by_cases hbl : b = l
      · subst hbl; exact ⟨o, xs, upd_same⟩
      · rw [upd_ne hbl]
        rcases List.mem_cons.mp hb with z | z
        · exact absurd z hbl
        · exact z1 b z
theorem frzA {pins : List (Addr × Obj)} {σ : L2.St} {s : Shared} {K : PySem.W.Frag} : ∀ {H : Hp} {t : Ty} {v : List V} {d : List Dt} {A : List Addr}, noKs t = true → RepA K H t v d A → L2.Inv X pins σ H s →
    ∃ H', L2.Inv X pins σ H' s ∧ ShA K H' v d ∧ (∀ a, a ∉ A → H' a = H a) ∧ (∀ a ∈ A, ∃ o xs, H' a = some (.frz o (.lst xs)))
  | H, _, _, _, _, _, .nil, I => ⟨H, I, .nil, fun _ _ => rfl, fun _ z => by cases z⟩
  | H, t, _, _, _, nk, .cons (A := A) (B := B) r s n, I => by
    obtain ⟨H1, I1, s1, k1, z1⟩ := frzR (by cases t <;> simp [noKs] at nk ⊢) (fun u hu => by subst hu; simpa [noKs] using nk) r I
    have im1 : Im H H1 := fun b u q i => by
      rw [k1 b fun z => ?_]; exact q
      obtain ⟨ys, q'⟩ := r.foot b z
      rw [q] at q'; cases q'; cases i
    have s' : RepA K H1 _ _ _ B := s.mono im1 fun b hb o q => by
      rw [k1 b fun z => n b z hb]; exact q
    obtain ⟨H2, I2, s2, k2, z2⟩ := frzA nk s' I1
    have im2 : Im H1 H2 := fun b u q i => by
      rw [k2 b fun z => ?_]; exact q
      obtain ⟨ys, q'⟩ := s'.foot b z
      rw [q] at q'; cases q'; cases i
    refine ⟨H2, I2, .cons (s1.mono im2) s2, fun b hb => ?_, fun b hb => ?_⟩
    · rw [k2 b fun z => hb (List.mem_append_right _ z), k1 b fun z => hb (List.mem_append_left _ z)]
    · by_cases hB : b ∈ B
      · exact z2 b hB
      · rcases List.mem_append.mp hb with z | z
        · rw [k2 b hB]; exact z1 b z
        · exact absurd z hB
end
/-- a fresh owned thing becomes shared -/
theorem ok_frz (K : CxV g N sc lv W X) (ha : PE X a (tV g c W m1 (.ls T) [])) (nk : noKs T = true) : PE X a (tV g c W m1 .sh []) := by
  refine ⟨fun pins s σ H Q I h => ?_⟩
  obtain ⟨e, f, rel, h⟩ := h
  refine thn (ha.run pins s σ H (fun v H1 => ∃ d e1 f1 A1, Rel g c e1 σ H1 f1 ∧ Stp c e H f e1 H1 f1 ∧ Res g c [] (.ls T) H H1 f1 v d A1 ∧ finV g c .sh [] σ Q d e1 e H f) I ⟨e, f, rel, at_mono h fun d e1 h1 v H1 f1 A1 rel1 st1 res1 => ⟨d, e1, f1, A1, rel1, st1, res1, h1⟩⟩) fun u s1 ⟨v, H1, I1, rv, d, e1, f1, A1, rel1, st1, res1, h1⟩ => ?_
  obtain ⟨H2, I2, sh, kp, fz⟩ := frzR (by intro z; cases z) (fun u hu => by cases hu; exact nk) (res1.rep rfl) I1
  have im : Im H1 H2 := fun b u q i => by
    rw [kp b fun z => ?_]; exact q
    obtain ⟨ys, q'⟩ := (res1.rep rfl).foot b z
    rw [q] at q'; cases q'; cases i
  have nA : ∀ i b, b ∈ f1 i → b ∉ A1 := fun i b hb ha => by
    by_cases ho : ownS (c.getD i .no) = true
    · exact res1.dis i b ho (by simp) ha hb
    · rw [(st1.keep i (by simpa using ho)).1] at hb
      obtain ⟨ys, q⟩ := rel.foot i b hb
      rcases res1.new b ha with z | ⟨j, hj, _⟩
      · rw [q] at z; cases z
      · cases hj
  have rel2 : Rel g c e1 σ H2 f1 := ⟨rel1.lenE, rel1.lenC, fun i sl h n => by
      obtain ⟨w, h1, h2⟩ := rel1.at_ i sl h n
      exact ⟨w, h1, h2.mono im fun b hb o q => by rw [kp b (nA i b hb)]; exact q⟩, rel1.free, rel1.dis, g.tm _ _ (fun b o q n _ => by
        rw [kp b fun z => ?_]; exact q
        obtain ⟨ys, q'⟩ := (res1.rep rfl).foot b z
        rw [q] at q'; cases q'; exact n _ rfl) rel1.tabs⟩
  have fr : ∀ b ∈ A1, H b = none := fun b hb => by
    rcases res1.new b hb with z | ⟨j, hj, _⟩
    · exact z
    · cases hj
  have st2 : Stp c e H f e1 H2 f1 := ⟨fun b o h n nt => by rw [kp b fun z => by rw [fr b z] at h; cases h]; exact st1.fr b o h n nt, fun b h => by
      by_cases hb : b ∈ A1
      · exact fr b hb
      · rw [kp b hb] at h; exact st1.old b h, st1.gro, st1.keep⟩
  exact ⟨v, H2, I2, rv, h1 v H2 f1 [] rel2 st2 ⟨.inl (.sh sh), fun _ => .sh sh, (fun _ z => by cases z), fun _ _ _ _ z => by cases z⟩⟩

/-! ### arguments -/
def argOk (g : G) (H : Hp) : Sl → V → Dt → List Addr → Prop
  | .own t, v, d, A => Rep g.K H t v d A
  | .ref t, v, d, A => Rep g.K H t v d A
  | .bor t, v, d, A => Rv g.K H t v d A
  | .no, _, _, _ => False
/-- the arguments as they lie: S the slots that they are parts of -/
inductive AL (g : G) (c : Cn) (σ : L2.St) (e' : Ev) (H H' : Hp) (f' : Ft) : List Sl → List (List Nat) → List V → List Dt → List (List Addr) → Prop
  | nil : AL g c σ e' H H' f' [] [] [] [] []
  | own {t : Ty} {v : V} {d : Dt} {A : List Addr} {ps : List Sl} {Ss : List (List Nat)} {vs : List V} {ds : List Dt} {As : List (List Addr)} : Res g c [] t H H' f' v d A → (∀ a ∈ A, ∀ B ∈ As, a ∉ B) → AL g c σ e' H H' f' ps Ss vs ds As →
      AL g c σ e' H H' f' (.own t :: ps) ([] :: Ss) (v :: vs) (d :: ds) (A :: As)
  | bor {t : Ty} {S : List Nat} {v : V} {d : Dt} {A : List Addr} {ps : List Sl} {Ss : List (List Nat)} {vs : List V} {ds : List Dt} {As : List (List Addr)} : Res g c S t H H' f' v d A → (∀ a ∈ A, (∀ i ∈ S, a ∉ f' i) → ∀ B ∈ As, a ∉ B) → AL g c σ e' H H' f' ps Ss vs ds As →
      AL g c σ e' H H' f' (.bor t :: ps) (S :: Ss) (v :: vs) (d :: ds) (A :: As)
  | ref {t : Ty} {i : Nat} {v : V} {ps : List Sl} {Ss : List (List Nat)} {vs : List V} {ds : List Dt} {As : List (List Addr)} : (c[i]? = some (.own t) ∨ c[i]? = some (.ref t)) → σ[i]? = some (some v) → AL g c σ e' H H' f' ps Ss vs ds As →
      AL g c σ e' H H' f' (.ref t :: ps) ([i] :: Ss) (v :: vs) (e'.getD i .none :: ds) (f' i :: As)
end
end VL


set_option Elab.async false
set_option linter.all false
set_option maxRecDepth 100000
set_option maxHeartbeats 1000000
/-! VL7: arguments and calls of the text's own defs. -/
namespace VL
open PySem PySem.Spec PyProof.Rows L2
def finA (g : G) (c : Cn) (ps : List Sl) (Ss : List (List Nat)) (σ : L2.St) (Q : List V → Hp → Prop) : Fn_ (List Dt) := fun ds e' e H f =>
  ∀ vs H' f' As, Rel g c e' σ H' f' → Stp c e H f e' H' f' → AL g c σ e' H H' f' ps Ss vs ds As → Q vs H'
def tA (g : G) (c : Cn) (W : WX) (m : M (List Dt)) (ps : List Sl) (Ss : List (List Nat)) : TA := fun σ H Q => ∃ e f, Rel g c e σ H f ∧ at_ g c W (finA g c ps Ss σ Q) m e f σ H
section
variable {g : G} {c : Cn} {W : WX} {N : List Str} {sc : Scope} {lv : Nat} {X : Cx} {a b : Expr} {T : Ty} {S : List Nat} {m1 : M Dt} {l1 : M (List Dt)} {p q : Pos} {es : List Expr} {ps : List Sl} {Ss : List (List Nat)}
variable {σ : L2.St} {e e1 e2 : Ev} {H H1 H2 : Hp} {f f1 f2 : Ft} {vs : List V} {ds : List Dt} {As : List (List Addr)}
theorem lend_nil : lend c [] = c := by
  unfold lend
  have : (fun (i : Nat) (s : Sl) => if i ∈ ([] : List Nat) then lend1 s else s) = fun _ s => s := by funext i s; simp
  rw [this]
  simp [List.mapIdx_eq_zipIdx_map]
theorem Res.later {t : Ty} {v : V} {d : Dt} {A : List Addr} (r : Res g c S t H H1 f1 v d A) (rel : Rel g c e1 σ H1 f1) (s : Stp (lend c S) e1 H1 f1 e2 H2 f2) : Res g c S t H H2 f2 v d A := by
  obtain ⟨h1, h2⟩ := r.hold rel s
  refine ⟨h1, h2, fun a ha => ?_, fun i a ho hi ha hm => ?_⟩
  · rcases r.new a ha with z | ⟨i, hi, z⟩
    · exact .inl z
    · refine .inr ⟨i, hi, ?_⟩
      rw [(s.keep i (by cases q : ownS ((lend c S).getD i .no) with
        | false => rfl
        | true => exact absurd hi (lend_own q).1)).1]
      exact z
  · rcases s.gro i a (lend_own' hi ho) hm with ⟨j, hj, z, _⟩ | z
    · exact r.dis j a (lend_own hj).2 (lend_own hj).1 ha z
    · obtain ⟨xs, q⟩ := r.rv.foot a ha
      rw [z] at q; cases q
/-- told of the slots ahead of the lending -/
theorem Res.unlend {S2 : List Nat} {t : Ty} {v : V} {d : Dt} {A : List Addr} (r : Res g (lend c S) S2 t H1 H2 f2 v d A) (rel1 : Rel g c e1 σ H1 f1) (rel2 : Rel g c e2 σ H2 f2) (s : Stp (lend c S) e1 H1 f1 e2 H2 f2) (old : ∀ a, H1 a = none → H a = none) :
    Res g c S2 t H H2 f2 v d A := by
  refine ⟨r.rv, r.rep, fun a ha => (r.new a ha).elim (fun z => .inl (old a z)) .inr, fun i a ho hi ha hm => ?_⟩
  by_cases hs : i ∈ S
  · rcases r.new a ha with z | ⟨j, hj, z⟩
    · rw [(s.keep i (by cases q : ownS ((lend c S).getD i .no) with
        | false => rfl
        | true => exact absurd hs (lend_own q).1)).1] at hm
      obtain ⟨xs, q⟩ := rel1.foot i a hm
      rw [z] at q; cases q
    · exact rel2.dis i j a (fun z => hi (z ▸ hj)) ho hm z
  · exact r.dis i a (lend_own' hs ho) hi ha hm
theorem AL.unlend (r : AL g (lend c S) σ e2 H1 H2 f2 ps Ss vs ds As) (rel1 : Rel g c e1 σ H1 f1) (rel2 : Rel g c e2 σ H2 f2) (s : Stp (lend c S) e1 H1 f1 e2 H2 f2) (old : ∀ a, H1 a = none → H a = none) : AL g c σ e2 H H2 f2 ps Ss vs ds As := by
  induction r with
  | nil => exact .nil
  | own h n _ ih => exact .own (h.unlend rel1 rel2 s old) n ih
  | bor h n _ ih => exact .bor (h.unlend rel1 rel2 s old) n ih
  | @ref t i v ps Ss vs ds As h n _ ih =>
    refine .ref ?_ n ih
    rw [lend_get] at h
    cases q : c[i]? with
    | none => rw [q] at h; simp at h
    | some sl =>
      rw [q] at h
      simp only [Option.map_some, Option.some.injEq] at h
      by_cases hs : i ∈ S
      · simp only [hs, if_true] at h
        cases sl <;> simp [lend1] at h
      · simp only [hs, if_false] at h
        rcases h with h | h
        · exact .inl (by rw [h])
        · exact .inr (by rw [h])

theorem ok_xnil : PA X [] (tA g c W (mp []) [] []) := PA.imp pa_nil fun σ H Q ⟨e, f, rel, h⟩ =>
  (show finA g c [] [] σ Q [] e e H f from h) [] H f [] rel Stp.refl .nil
/-- what holds of all later ones holds of none of the first's new part -/
theorem AL.apart (r : AL g (lend c S) σ e2 H1 H2 f2 ps Ss vs ds As) (s : Stp (lend c S) e1 H1 f1 e2 H2 f2) (rel1 : Rel g c e1 σ H1 f1) (a : Addr) (h1 : H1 a ≠ none) (h2 : ∀ i, a ∉ f1 i) : ∀ B ∈ As, a ∉ B := by
  have nf : ∀ i, a ∉ f2 i := fun i hm => by
    cases q : ownS ((lend c S).getD i .no) with
    | true =>
      rcases s.gro i a q hm with ⟨j, _, z, _⟩ | z
      · exact h2 j z
      · exact h1 z
    | false => rw [(s.keep i q).1] at hm; exact h2 i hm
  have nr : ∀ {S' : List Nat} {t : Ty} {v : V} {d : Dt} {A : List Addr}, Res g (lend c S) S' t H1 H2 f2 v d A → a ∉ A := fun r ha => by
    rcases r.new a ha with z | ⟨i, _, z⟩
    · exact h1 z
    · exact nf i z
  induction r with
  | nil => intro B hB; cases hB
  | own h n _ ih =>
    intro B hB
    rcases List.mem_cons.mp hB with e | hB
    · rw [e]; exact nr h
    · exact ih B hB
  | bor h n _ ih =>
    intro B hB
    rcases List.mem_cons.mp hB with e | hB
    · rw [e]; exact nr h
    · exact ih B hB
  | @ref t i v ps Ss vs ds As h n _ ih =>
    intro B hB
    rcases List.mem_cons.mp hB with e | hB
    · rw [e]; exact nf i
    · exact ih B hB
theorem ok_xown (ha : PE X a (tV g c W m1 T [])) (hb : PA X es (tA g c W l1 ps Ss)) (hs : starEach (a :: es) X.env = (false, eval a X.env) :: starEach es X.env) :
    PA X (a :: es) (tA g c W (mb m1 fun x => mb l1 fun xs => mp (x :: xs)) (.own T :: ps) ([] :: Ss)) := by
  refine PA.imp (pa_cons ha hb hs) fun σ H Q h => ?_
  obtain ⟨e, f, rel, h⟩ := h
  refine ⟨e, f, rel, at_mono (at_abs h) fun d1 e1 h1 v1 H1 f1 A1 rel1 st1 res1 => ?_⟩
  refine ⟨e1, f1, rel1, at_mono (at_abs (at_move h1 st1)) fun ds e2 h2 vs H2 f2 As rel2 st2 al2 => ?_⟩
  have h3 : finA g c (.own T :: ps) ([] :: Ss) σ Q (d1 :: ds) e2 e H f := h2
  have st2' : Stp (lend c []) e1 H1 f1 e2 H2 f2 := by rw [lend_nil]; exact st2
  have al2' : AL g (lend c []) σ e2 H1 H2 f2 ps Ss vs ds As := by rw [lend_nil]; exact al2
  refine h3 (v1 :: vs) H2 f2 (A1 :: As) rel2 (st1.trans st2) (.own (res1.later rel1 st2') (fun x hx => al2'.apart st2' rel1 x (fun z => ?_) fun i hm => ?_) (al2'.unlend rel1 rel2 st2' st1.old))
  · obtain ⟨xs, q⟩ := res1.rv.foot x hx
    rw [z] at q; cases q
  · cases q : ownS (c.getD i .no) with
    | true => exact res1.dis i x q (by simp) hx hm
    | false =>
      rw [(st1.keep i q).1] at hm
      obtain ⟨xs, z⟩ := rel.foot i x hm
      rcases res1.new x hx with y | ⟨j, hj, _⟩
      · rw [y] at z; cases z
      · cases hj
theorem ok_xbor (ha : PE X a (tV g c W m1 T S)) (hb : PA X es (tA g (lend c S) W l1 ps Ss)) (hs : starEach (a :: es) X.env = (false, eval a X.env) :: starEach es X.env) :
    PA X (a :: es) (tA g c W (mb m1 fun x => mb l1 fun xs => mp (x :: xs)) (.bor T :: ps) (S :: Ss)) := by
  refine PA.imp (pa_cons ha hb hs) fun σ H Q h => ?_
  obtain ⟨e, f, rel, h⟩ := h
  refine ⟨e, f, rel, at_mono (at_abs h) fun d1 e1 h1 v1 H1 f1 A1 rel1 st1 res1 => ?_⟩
  refine ⟨e1, f1, rel1.lend S, at_mono (at_lend (at_abs (at_move h1 st1)) S) fun ds e2 h2 vs H2 f2 As rel2 st2 al2 => ?_⟩
  have h3 : finA g c (.bor T :: ps) (S :: Ss) σ Q (d1 :: ds) e2 e H f := h2
  have rel2' := rel2.back rel1 st2
  refine h3 (v1 :: vs) H2 f2 (A1 :: As) rel2' (st1.trans (st2.lent rel1)) (.bor (res1.later rel1 st2) (fun x hx hn => al2.apart st2 rel1 x (fun z => ?_) fun i hm => ?_) (al2.unlend rel1 rel2' st2 st1.old))
  · obtain ⟨xs, q⟩ := res1.rv.foot x hx
    rw [z] at q; cases q
  · have z2 : ∀ i ∈ S, f2 i = f1 i := fun i hi => (st2.keep i (by cases q : ownS ((lend c S).getD i .no) with
        | false => rfl
        | true => exact absurd hi (lend_own q).1)).1
    have nn : H x = none := by
      rcases res1.new x hx with y | ⟨j, hj, y⟩
      · exact y
      · rw [← z2 j hj] at y; exact absurd y (hn j hj)
    by_cases hi : i ∈ S
    · rw [← z2 i hi] at hm; exact hn i hi hm
    · cases q : ownS (c.getD i .no) with
      | true => exact res1.dis i x q hi hx hm
      | false =>
        rw [(st1.keep i q).1] at hm
        obtain ⟨xs, z⟩ := rel.foot i x hm
        rw [nn] at z; cases z
theorem ok_xref (K : CxV g N sc lv W X) {x : Str} {i : Nat} {t : Ty} (hc : c[i]? = some (.own t) ∨ c[i]? = some (.ref t)) (hN : N[i]? = some x) (hv : visB sc x = true) (hx : nmB x = true)
    (hb : PA X es (tA g c W l1 ps Ss)) (hs : starEach (.Name x q :: es) X.env = (false, eval (.Name x q) X.env) :: starEach es X.env) :
    PA X (.Name x q :: es) (tA g c W (mb l1 fun xs => fun e => .ok (e.getD i .none :: xs, e)) (.ref t :: ps) ([i] :: Ss)) := by
  unfold nmB at hx
  simp only [Bool.and_eq_true, Bool.not_eq_true'] at hx
  refine PA.imp (pa_cons (pe_var (i := i) (by rw [K.hN]; exact hN) (by rw [K.hsc]; exact vis_of hv) hx.1 hx.2) hb hs) fun σ H Q h => ?_
  obtain ⟨e, f, rel, h⟩ := h
  obtain ⟨v, hv'⟩ : ∃ v, σ[i]? = some (some v) := by
    rcases hc with hc | hc
    · obtain ⟨v, h1, _⟩ := rel.at_ i _ hc (by intro z; cases z); exact ⟨v, h1⟩
    · obtain ⟨v, h1, _⟩ := rel.at_ i _ hc (by intro z; cases z); exact ⟨v, h1⟩
  refine ⟨v, hv', e, f, rel, at_mono (at_abs h) fun ds e2 h2 vs H2 f2 As rel2 st2 al2 => ?_⟩
  have h3 : finA g c (.ref t :: ps) ([i] :: Ss) σ Q (e2.getD i .none :: ds) e2 e H f := h2
  exact h3 (v :: vs) H2 f2 (f2 i :: As) rel2 st2 (.ref hc hv' al2)

/-! ### what lies where -/
def AtK (g : G) (c : Cn) (σ : L2.St) (e' : Ev) (H H' : Hp) (f' : Ft) : Sl → List Nat → V → Dt → List Addr → Prop
  | .own t, S, v, d, A => S = [] ∧ Res g c [] t H H' f' v d A
  | .bor t, S, v, d, A => Res g c S t H H' f' v d A
  | .ref t, S, v, d, A => ∃ i, S = [i] ∧ (c[i]? = some (.own t) ∨ c[i]? = some (.ref t)) ∧ σ[i]? = some (some v) ∧ d = e'.getD i .none ∧ A = f' i
  | .no, _, _, _, _ => False
theorem AL.len (r : AL g c σ e2 H H2 f2 ps Ss vs ds As) : Ss.length = ps.length ∧ vs.length = ps.length ∧ ds.length = ps.length ∧ As.length = ps.length := by
  induction r with
  | nil => exact ⟨rfl, rfl, rfl, rfl⟩
  | own _ _ _ ih => obtain ⟨h1, h2, h3, h4⟩ := ih; simp [h1, h2, h3, h4]
  | bor _ _ _ ih => obtain ⟨h1, h2, h3, h4⟩ := ih; simp [h1, h2, h3, h4]
  | ref _ _ _ ih => obtain ⟨h1, h2, h3, h4⟩ := ih; simp [h1, h2, h3, h4]
theorem AL.get (r : AL g c σ e2 H H2 f2 ps Ss vs ds As) : ∀ (k : Nat) (sl : Sl), ps[k]? = some sl → ∃ S v, Ss[k]? = some S ∧ vs[k]? = some v ∧ AtK g c σ e2 H H2 f2 sl S v (ds.getD k .none) (As.getD k []) := by
  induction r with
  | nil => intro k sl h; simp at h
  | own h n _ ih =>
    intro k sl hk
    cases k with
    | zero => simp at hk; subst hk; exact ⟨_, _, rfl, rfl, rfl, h⟩
    | succ k => exact ih k sl (by simpa using hk)
  | bor h n _ ih =>
    intro k sl hk
    cases k with
    | zero => simp at hk; subst hk; exact ⟨_, _, rfl, rfl, h⟩
    | succ k => exact ih k sl (by simpa using hk)
  | @ref t i v ps Ss vs ds As h n _ ih =>
    intro k sl hk
    cases k with
    | zero => simp at hk; subst hk; exact ⟨_, _, rfl, rfl, i, rfl, h, n, rfl, rfl⟩
    | succ k => exact ih k sl (by simpa using hk)
/-- two arguments' parts: what both have is part of slots -/
theorem AL.two (r : AL g c σ e2 H H2 f2 ps Ss vs ds As) : ∀ (k l : Nat), k < l → ∀ a, a ∈ As.getD k [] → a ∈ As.getD l [] → ∃ S i, Ss[k]? = some S ∧ i ∈ S ∧ a ∈ f2 i := by
  have mem : ∀ {As : List (List Addr)} {l : Nat} {a : Addr}, a ∈ As.getD l [] → ∃ B ∈ As, a ∈ B := fun {As l a} h => by
    rw [List.getD_eq_getElem?_getD] at h
    cases q : As[l]? with
    | none => rw [q] at h; cases h
    | some B => rw [q] at h; exact ⟨B, List.mem_of_getElem? q, h⟩
  induction r with
  | nil => intro k l _ a h; simp at h
  | own h n _ ih =>
    intro k l hkl a h1 h2
    cases l with
    | zero => omega
    | succ l =>
      cases k with
      | zero =>
        rename_i As0 _
        obtain ⟨B, hB, hb⟩ := mem (As := As0) (l := l) (by simpa using h2)
        exact absurd hb (n a h1 B hB)
      | succ k => exact ih k l (by omega) a h1 h2
  | @bor t S v d A ps Ss vs ds As h n _ ih =>
    intro k l hkl a h1 h2
    cases l with
    | zero => omega
    | succ l =>
      cases k with
      | zero =>
        obtain ⟨B, hB, hb⟩ := mem (As := As) (l := l) (by simpa using h2)
        by_cases q : ∃ i ∈ S, a ∈ f2 i
        · obtain ⟨i, hi, hm⟩ := q
          exact ⟨S, i, rfl, hi, hm⟩
        · exact absurd hb (n a h1 (fun i hi hm => q ⟨i, hi, hm⟩) B hB)
      | succ k => exact ih k l (by omega) a h1 h2
  | @ref t i v ps Ss vs ds As h n _ ih =>
    intro k l hkl a h1 h2
    cases l with
    | zero => omega
    | succ l =>
      cases k with
      | zero => exact ⟨[i], i, rfl, by simp, h1⟩
      | succ k => exact ih k l (by omega) a h1 h2
end
end VL


set_option Elab.async false
set_option linter.all false
set_option maxRecDepth 100000
set_option maxHeartbeats 1000000
/-! VL8: calls of the text's own defs. -/
namespace VL
open PySem PySem.Spec PyProof.Rows L2

/-! ### what a def promises -/
def refS : Sl → Bool
  | .ref _ => true
  | _ => false
structure RetOk (b : B) (F : Fn) (vs : List V) (outs : List Dt) (f0 : Ft) (H H' : Hp) (f' : Ft) (v : V) (d : Dt) (A : List Addr) : Prop where
  fr : Fr F.ps f0 H H'
  old : ∀ a, H' a = none → H a = none
  tabs : b.tabs H'
  rep : Rep b.K H' F.rt v d A
  refs : ∀ k t, F.ps[k]? = some (.ref t) → ∃ v, vs[k]? = some v ∧ Rep b.K H' t v (outs.getD k .none) (f' k)
  gro : ∀ k a, refS (F.ps.getD k .no) = true → a ∈ f' k → H a = none ∨ a ∈ f0 k ∨ ∃ l, (∃ t, F.ps[l]? = some (.own t)) ∧ a ∈ f0 l
  new : ∀ a ∈ A, H a = none ∨ ∃ l, (∃ t, F.ps[l]? = some (.own t)) ∧ a ∈ f0 l
  disA : ∀ k a, refS (F.ps.getD k .no) = true → a ∈ A → a ∉ f' k
  dis : ∀ k l a, k ≠ l → refS (F.ps.getD k .no) = true → refS (F.ps.getD l .no) = true → a ∈ f' k → a ∉ f' l
def spV (b : B) (F : Fn) : Sp := fun vs H Q E => vs.length = F.ps.length ∧ ∃ ds f0, Rel ⟨b, vs⟩ F.ps ds (vs.map some) H f0 ∧
  match F.sem ds with
  | .ok (d, outs) => ∀ v H' f' A, RetOk b F vs outs f0 H H' f' v d A → Q v H'
  | .exc x xs => ∀ cls dd H', b.exc x xs cls dd H' → Fr F.ps f0 H H' → (∀ a, H' a = none → H a = none) → b.tabs H' → E cls dd H'
  | .err => False

/-! ### slots of parameters that are changed in place -/
def outsOf : List Sl → List (List Nat) → Nat → List (Nat × Nat)
  | .ref _ :: ps, [i] :: Ss, k => (i, k) :: outsOf ps Ss (k + 1)
  | _ :: ps, _ :: Ss, k => outsOf ps Ss (k + 1)
  | _, _, _ => []
theorem outs_mem {i k : Nat} : ∀ {ps : List Sl} {Ss : List (List Nat)} {b : Nat}, (i, k) ∈ outsOf ps Ss b → ∃ j t, k = b + j ∧ ps[j]? = some (.ref t) ∧ Ss[j]? = some [i] := by
  intro ps
  induction ps with
  | nil => intro Ss b h; simp [outsOf] at h
  | cons p ps ih =>
    intro Ss b h
    have next : ∀ {Ss' : List (List Nat)} {S : List Nat}, (i, k) ∈ outsOf ps Ss' (b + 1) → ∃ j t, k = b + j ∧ (p :: ps)[j]? = some (.ref t) ∧ (S :: Ss')[j]? = some [i] := fun h => by
      obtain ⟨j, t, h1, h2, h3⟩ := ih h
      exact ⟨j + 1, t, by omega, by simpa using h2, by simpa using h3⟩
    cases Ss with
    | nil => cases p <;> simp [outsOf] at h
    | cons S Ss =>
      cases p with
      | ref t =>
        match S, h with
        | [], h => exact next h
        | [i0], h =>
          simp only [outsOf, List.mem_cons] at h
          rcases h with h | h
          · cases h; exact ⟨0, t, rfl, rfl, rfl⟩
          · exact next h
        | _ :: _ :: _, h => exact next h
      | no => exact next (by simpa [outsOf] using h)
      | own t => exact next (by simpa [outsOf] using h)
      | bor t => exact next (by simpa [outsOf] using h)
theorem mem_outs {i : Nat} {t : Ty} : ∀ {ps : List Sl} {Ss : List (List Nat)} {b j : Nat}, ps[j]? = some (.ref t) → Ss[j]? = some [i] → (i, b + j) ∈ outsOf ps Ss b := by
  intro ps
  induction ps with
  | nil => intro Ss b j h; simp at h
  | cons p ps ih =>
    intro Ss b j h1 h2
    cases Ss with
    | nil => simp at h2
    | cons S Ss =>
      cases j with
      | zero => simp at h1 h2; subst h1; subst h2; simp [outsOf]
      | succ j =>
        have z := ih (b := b + 1) (by simpa using h1) (show Ss[j]? = some [i] by simpa using h2)
        rw [show b + 1 + j = b + (j + 1) by omega] at z
        cases p with
        | ref t =>
          match S with
          | [] => exact z
          | [i0] => exact List.mem_cons_of_mem _ z
          | _ :: _ :: _ => exact z
        | no => exact z
        | own t => exact z
        | bor t => exact z
theorem setOuts_len {outs : List Dt} : ∀ {os : List (Nat × Nat)} {e : Ev}, (setOuts outs os e).length = e.length := by
  intro os
  induction os with
  | nil => intro e; rfl
  | cons q os ih => intro e; obtain ⟨i, k⟩ := q; simp [setOuts, ih]
theorem setOuts_off {outs : List Dt} {i : Nat} : ∀ {os : List (Nat × Nat)} {e : Ev}, (∀ k, (i, k) ∉ os) → (setOuts outs os e).getD i .none = e.getD i .none := by
  intro os
  induction os with
  | nil => intro e _; rfl
  | cons q os ih =>
    intro e h
    obtain ⟨i0, k0⟩ := q
    simp only [setOuts]
    rw [ih fun k hk => h k (List.mem_cons_of_mem _ hk)]
    have n : i0 ≠ i := fun z => h k0 (by rw [z]; exact List.mem_cons_self)
    simp [List.getD_eq_getElem?_getD, List.getElem?_set, n]
theorem setOuts_on {outs : List Dt} {i k : Nat} : ∀ {os : List (Nat × Nat)} {e : Ev}, (i, k) ∈ os → (∀ k', (i, k') ∈ os → k' = k) → i < e.length → (setOuts outs os e).getD i .none = outs.getD k .none := by
  intro os
  induction os with
  | nil => intro e h; cases h
  | cons q os ih =>
    intro e h u l
    obtain ⟨i0, k0⟩ := q
    simp only [setOuts]
    by_cases hm : ∃ k', (i, k') ∈ os
    · obtain ⟨k', hm⟩ := hm
      have e1 := u k' (List.mem_cons_of_mem _ hm)
      subst e1
      exact ih hm (fun k'' h'' => u k'' (List.mem_cons_of_mem _ h'')) (by simpa using l)
    · rw [setOuts_off fun k' hk => hm ⟨k', hk⟩]
      rcases List.mem_cons.mp h with z | z
      · cases z
        simp [List.getD_eq_getElem?_getD, List.getElem?_set, l]
      · exact absurd ⟨k, z⟩ hm
/-- no argument looks at what another one is changed through -/
def refOk (ps : List Sl) (Ss : List (List Nat)) : Prop := ∀ (k l : Nat), k ≠ l → ∀ (i : Nat) (t : Ty) (S : List Nat), ps[k]? = some (.ref t) → Ss[k]? = some [i] → Ss[l]? = some S → i ∉ S
def newF (os : List (Nat × Nat)) (f f' : Ft) : Ft := fun i => match os.find? fun q => q.1 == i with
  | some q => f' q.2
  | none => f i
theorem newF_on {os : List (Nat × Nat)} {f f' : Ft} {i k : Nat} (h : (i, k) ∈ os) (u : ∀ k', (i, k') ∈ os → k' = k) : newF os f f' i = f' k := by
  unfold newF
  cases q : os.find? fun q => q.1 == i with
  | none => exact absurd (List.find?_eq_none.mp q (i, k) h) (by simp)
  | some p =>
    obtain ⟨i0, k0⟩ := p
    have h1 := List.mem_of_find?_eq_some q
    have h2 := List.find?_some q
    simp at h2
    subst h2
    have := u k0 h1
    subst this
    rfl
theorem newF_off {os : List (Nat × Nat)} {f f' : Ft} {i : Nat} (h : ∀ k, (i, k) ∉ os) : newF os f f' i = f i := by
  unfold newF
  cases q : os.find? fun q => q.1 == i with
  | none => rfl
  | some p =>
    obtain ⟨i0, k0⟩ := p
    have h1 := List.mem_of_find?_eq_some q
    have h2 := List.find?_some q
    simp at h2
    subst h2
    exact absurd h1 (h k0)

section
variable {g : G} {c : Cn} {W : WX} {N : List Str} {sc : Scope} {lv : Nat} {X : Cx} {T : Ty} {S : List Nat} {l1 : M (List Dt)} {p q : Pos} {a : Expr} {es : List Expr} {ps : List Sl} {Ss : List (List Nat)}
variable {σ : L2.St} {e e1 e2 : Ev} {H H1 H2 H3 : Hp} {f f1 f2 f3 : Ft} {vs : List V} {ds outs : List Dt} {As : List (List Addr)} {b : B} {F : Fn}
/-- what the callee's own part is -/
theorem AL.part (al : AL g c σ e2 H H2 f2 ps Ss vs ds As) (ro : refOk ps Ss) (rel : Rel g c e σ H f) (rel2 : Rel g c e2 σ H2 f2) (st2 : Stp c e H f e2 H2 f2) {k : Nat} {a : Addr} (ho : ownS (ps.getD k .no) = true) (ha : a ∈ As.getD k []) :
    (H a = none ∧ (∀ i, a ∉ f2 i) ∧ ∃ t, ps[k]? = some (.own t)) ∨ ∃ i t, ps[k]? = some (.ref t) ∧ Ss[k]? = some [i] ∧ (c[i]? = some (.own t) ∨ c[i]? = some (.ref t)) ∧ As.getD k [] = f2 i ∧ a ∈ f2 i := by
  cases hk : ps[k]? with
  | none => rw [List.getD_eq_getElem?_getD, hk] at ho; cases ho
  | some sl =>
    obtain ⟨S, v, h1, h2, h3⟩ := al.get k sl hk
    have hg : ps.getD k .no = sl := by rw [List.getD_eq_getElem?_getD, hk]; rfl
    rw [hg] at ho
    cases sl with
    | no => cases ho
    | bor t => cases ho
    | own t =>
      obtain ⟨_, r⟩ := h3
      left
      have hn : H a = none := by
        rcases r.new a ha with z | ⟨j, hj, _⟩
        · exact z
        · cases hj
      refine ⟨hn, fun i hm => ?_, t, rfl⟩
      cases qo : ownS (c.getD i .no) with
      | true => exact r.dis i a qo (by simp) ha hm
      | false =>
        rw [(st2.keep i qo).1] at hm
        obtain ⟨xs, z⟩ := rel.foot i a hm
        rw [hn] at z; cases z
    | ref t =>
      obtain ⟨i, h4, h5, _, _, h6⟩ := h3
      right
      exact ⟨i, t, rfl, by rw [h1, h4], h5, h6, by rw [← h6]; exact ha⟩
/-- the callee's view -/
theorem AL.rel (al : AL g c σ e2 H H2 f2 ps Ss vs ds As) (ro : refOk ps Ss) (rel : Rel g c e σ H f) (rel2 : Rel g c e2 σ H2 f2) (st2 : Stp c e H f e2 H2 f2) :
    Rel ⟨g.toB, vs⟩ ps ds (vs.map some) H2 fun k => As.getD k [] := by
  obtain ⟨l1, l2, l3, l4⟩ := al.len
  have none_of : ∀ k, ps[k]? = none → As.getD k [] = [] := fun k h => by
    rw [List.getD_eq_getElem?_getD, List.getElem?_eq_none (by rw [l4]; exact List.getElem?_eq_none_iff.mp h)]; rfl
  refine ⟨by rw [List.length_map]; omega, by rw [List.length_map]; omega, fun k sl hk hn => ?_, fun k hk => ?_, fun k l a hkl ho h1 h2 => ?_, rel2.tabs⟩
  · obtain ⟨S, v, h1, h2, h3⟩ := al.get k sl hk
    refine ⟨v, by rw [List.getElem?_map, h2]; rfl, ?_⟩
    cases sl with
    | no => exact absurd rfl hn
    | own t => exact h3.2.rep rfl
    | bor t =>
      rcases h3.rv with z | z
      · exact .inl z
      · exact .inr z
    | ref t =>
      obtain ⟨i, h4, h5, h6, h7, h8⟩ := h3
      rw [h7, h8]
      refine ⟨?_, h2⟩
      rcases h5 with h5 | h5
      · obtain ⟨w, w1, w2⟩ := rel2.at_ i _ h5 (by intro z; cases z)
        rw [h6] at w1; cases w1
        exact w2
      · obtain ⟨w, w1, w2⟩ := rel2.at_ i _ h5 (by intro z; cases z)
        rw [h6] at w1; cases w1
        exact w2.1
  · cases hq : ps[k]? with
    | none => exact none_of k hq
    | some sl =>
      have : sl = .no := by rw [List.getD_eq_getElem?_getD, hq] at hk; exact hk
      subst this
      obtain ⟨S, v, h1, h2, h3⟩ := al.get k _ hq
      exact h3.elim
  · -- two parts
    have key : ∀ {k l : Nat}, k ≠ l → ownS (ps.getD k .no) = true → a ∈ As.getD k [] → a ∈ As.getD l [] → (∃ i t, ps[k]? = some (Sl.ref t) ∧ Ss[k]? = some [i] ∧ (c[i]? = some (.own t) ∨ c[i]? = some (.ref t)) ∧ a ∈ f2 i) → False := by
      intro k l hkl ho h1 h2 ⟨i, t, q1, q2, q3, q4⟩
      have oi : ownS (c.getD i .no) = true := by
        rcases q3 with z | z
        · rw [getD_eq z]; rfl
        · rw [getD_eq z]; rfl
      cases hl : ps[l]? with
      | none => rw [none_of l hl] at h2; cases h2
      | some sl =>
        obtain ⟨S', v, z1, z2, z3⟩ := al.get l sl hl
        have ni := ro k l hkl i t S' q1 q2 z1
        cases sl with
        | no => exact z3.elim
        | own t => exact z3.2.dis i a oi (by simp) h2 q4
        | bor t => exact z3.dis i a oi ni h2 q4
        | ref t =>
          obtain ⟨j, h4, h5, _, _, h8⟩ := z3
          subst h4
          rw [h8] at h2
          exact rel2.dis i j a (fun z => ni (by simp [z])) oi q4 h2
    rcases al.part ro rel rel2 st2 ho h1 with ⟨hn, hf, t, hown⟩ | ⟨i, t, q1, q2, q3, _, q4⟩
    · -- own: the other one has it neither
      have two := al.two
      rcases Nat.lt_or_gt_of_ne hkl with hlt | hgt
      · obtain ⟨S, i, _, _, hm⟩ := two k l hlt a h1 h2
        exact hf i hm
      · obtain ⟨S, i, _, _, hm⟩ := two l k hgt a h2 h1
        exact hf i hm
    · exact key hkl ho h1 h2 ⟨i, t, q1, q2, q3, q4⟩
/-- what stays for the caller -/
theorem AL.fr (al : AL g c σ e2 H H2 f2 ps Ss vs ds As) (ro : refOk ps Ss) (rel : Rel g c e σ H f) (rel2 : Rel g c e2 σ H2 f2) (st2 : Stp c e H f e2 H2 f2) (x : Fr ps (fun k => As.getD k []) H2 H3) : Fr c f H H3 := fun a o h n nt => by
  refine x a o (st2.fr a o h n nt) (fun k ho hm => ?_) nt
  rcases al.part ro rel rel2 st2 ho hm with ⟨hn, _, _⟩ | ⟨i, t, q1, q2, q3, _, q4⟩
  · rw [hn] at h; cases h
  · have oi : ownS (c.getD i .no) = true := by
      rcases q3 with z | z
      · rw [getD_eq z]; rfl
      · rw [getD_eq z]; rfl
    rcases st2.gro i a oi q4 with ⟨j, hj, z, _⟩ | z
    · exact n j hj z
    · rw [h] at z; cases z
theorem AL.ret (al : AL g c σ e2 H H2 f2 F.ps Ss vs ds As) (ro : refOk F.ps Ss) (rel : Rel g c e σ H f) (rel2 : Rel g c e2 σ H2 f2) (st2 : Stp c e H f e2 H2 f2) {v : V} {d : Dt} {A : List Addr}
    (r : RetOk g.toB F vs outs (fun k => As.getD k []) H2 H3 f3 v d A) :
    Rel g c (setOuts outs (outsOf F.ps Ss 0) e2) σ H3 (newF (outsOf F.ps Ss 0) f2 f3) ∧ Stp c e H f (setOuts outs (outsOf F.ps Ss 0) e2) H3 (newF (outsOf F.ps Ss 0) f2 f3) ∧
      Res g c [] F.rt H H3 (newF (outsOf F.ps Ss 0) f2 f3) v d A := by
  have on : ∀ {i k}, (i, k) ∈ outsOf F.ps Ss 0 → ∃ t v, F.ps[k]? = some (.ref t) ∧ Ss[k]? = some [i] ∧ (c[i]? = some (.own t) ∨ c[i]? = some (.ref t)) ∧ σ[i]? = some (some v) ∧ vs[k]? = some v ∧ As.getD k [] = f2 i := fun {i k} h => by
    obtain ⟨j, t, h1, h2, h3⟩ := outs_mem h
    simp only [Nat.zero_add] at h1
    subst h1
    obtain ⟨S, v, z1, z2, i', h4, h5, h6, h7, h8⟩ := al.get k _ h2
    rw [h3] at z1; cases z1; cases h4
    exact ⟨t, v, h2, h3, h5, h6, z2, h8⟩
  have uq : ∀ {i k}, (i, k) ∈ outsOf F.ps Ss 0 → ∀ k', (i, k') ∈ outsOf F.ps Ss 0 → k' = k := fun {i k} h k' h' => by
    obtain ⟨t, v, h1, h2, _⟩ := on h
    obtain ⟨t', v', h1', h2', _⟩ := on h'
    by_cases z : k' = k
    · exact z
    · exact absurd (List.mem_singleton.mpr rfl) (ro k k' (Ne.symm z) i t [i] h1 h2 h2')
  have ow : ∀ {i t}, (c[i]? = some (.own t) ∨ c[i]? = some (.ref t)) → ownS (c.getD i .no) = true := fun {i t} z => by
    rcases z with z | z
    · rw [getD_eq z]; rfl
    · rw [getD_eq z]; rfl
  have rk : ∀ {k t}, F.ps[k]? = some (.ref t) → refS (F.ps.getD k .no) = true := fun {k t} h => by rw [getD_eq h]; rfl
  have cal := al.rel ro rel rel2 st2
  have im : Im H2 H3 := cal.im r.fr
  /- a part of a slot that was not handed out stays -/
  have stay : ∀ i, (∀ k, (i, k) ∉ outsOf F.ps Ss 0) → ∀ a ∈ f2 i, ∀ k, ownS (F.ps.getD k .no) = true → a ∉ As.getD k [] := fun i hi a ha k ho hm => by
    rcases al.part ro rel rel2 st2 ho hm with ⟨_, hf, _⟩ | ⟨j, t, q1, q2, q3, _, q4⟩
    · exact hf i ha
    · have hj : (j, 0 + k) ∈ outsOf F.ps Ss 0 := mem_outs q1 q2
      have : j ≠ i := fun z => hi _ (z ▸ hj)
      exact rel2.dis j i a this (ow q3) q4 ha
  have keepA : ∀ i, (∀ k, (i, k) ∉ outsOf F.ps Ss 0) → ∀ a ∈ f2 i, ∀ o, H2 a = some o → H3 a = some o := fun i hi a ha o q => by
    refine r.fr a o q (fun k ho hm => stay i hi a ha k ho hm) fun ps z => ?_
    obtain ⟨xs, q'⟩ := rel2.foot i a ha
    rw [z, q'] at q; cases q
  /- what a changed slot is made of -/
  have made : ∀ {i k}, (i, k) ∈ outsOf F.ps Ss 0 → ∀ a ∈ f3 k, H2 a = none ∨ (H a = none ∧ ∀ j, a ∉ f2 j) ∨ a ∈ f2 i := fun {i k} h a ha => by
    obtain ⟨t, v, h1, h2, h3, h4, h5, h6⟩ := on h
    rcases r.gro k a (rk h1) ha with z | z | ⟨l, ⟨t', hl⟩, hm⟩
    · exact .inl z
    · exact .inr (.inr (by rw [← h6]; exact z))
    · rcases al.part ro rel rel2 st2 (k := l) (by rw [getD_eq hl]; rfl) hm with ⟨hn, hf, _⟩ | ⟨j, t, q1, q2, q3, _, q4⟩
      · exact .inr (.inl ⟨hn, hf⟩)
      · rw [hl] at q1; cases q1
  have apart : ∀ {i k}, (i, k) ∈ outsOf F.ps Ss 0 → ∀ j, (∀ l, (j, l) ∉ outsOf F.ps Ss 0) → ∀ a ∈ f3 k, a ∉ f2 j := fun {i k} h j hj a ha hm => by
    rcases made h a ha with z | ⟨_, z⟩ | z
    · obtain ⟨xs, q⟩ := rel2.foot j a hm
      rw [z] at q; cases q
    · exact z j hm
    · obtain ⟨t, v, _, _, h5, _⟩ := on h
      exact rel2.dis i j a (fun y => hj k (y ▸ h)) (ow h5) z hm
  have dec : ∀ i, (∃ k, (i, k) ∈ outsOf F.ps Ss 0) ∨ ∀ k, (i, k) ∉ outsOf F.ps Ss 0 := fun i => by
    by_cases z : ∃ k, (i, k) ∈ outsOf F.ps Ss 0
    · exact .inl z
    · exact .inr fun k hk => z ⟨k, hk⟩
  have relN : Rel g c (setOuts outs (outsOf F.ps Ss 0) e2) σ H3 (newF (outsOf F.ps Ss 0) f2 f3) := by
    refine ⟨by rw [setOuts_len]; exact rel2.lenE, rel2.lenC, fun i sl h n => ?_, fun i h => ?_, fun i j a hij ho h1 h2 => ?_, r.tabs⟩
    · rcases dec i with ⟨k, hk⟩ | hi
      · obtain ⟨t, v, h1, h2, h3, h4, h5, h6⟩ := on hk
        refine ⟨v, h4, ?_⟩
        have li : i < e2.length := by
          rw [rel2.lenE, ← rel2.lenC]
          rcases h3 with z | z
          · exact (List.getElem?_eq_some_iff.mp z).1
          · exact (List.getElem?_eq_some_iff.mp z).1
        rw [setOuts_on hk (uq hk) li, newF_on hk (uq hk)]
        obtain ⟨v', w1, w2⟩ := r.refs k t h1
        rw [h5] at w1; cases w1
        rcases h3 with z | z
        · rw [z] at h; cases h; exact w2
        · rw [z] at h; cases h
          refine ⟨w2, ?_⟩
          obtain ⟨w, y1, y2⟩ := rel2.at_ i _ z (by intro y; cases y)
          rw [h4] at y1; cases y1
          exact y2.2
      · obtain ⟨v, h1, h2⟩ := rel2.at_ i sl h n
        refine ⟨v, h1, ?_⟩
        rw [setOuts_off hi, newF_off hi]
        exact h2.mono im (keepA i hi)
    · rcases dec i with ⟨k, hk⟩ | hi
      · obtain ⟨t, v, h1, h2, h3, _⟩ := on hk
        have := ow h3
        rw [h] at this; cases this
      · rw [newF_off hi]; exact rel2.free i h
    · rcases dec i with ⟨k, hk⟩ | hi
      · rw [newF_on hk (uq hk)] at h1
        rcases dec j with ⟨l, hl⟩ | hj
        · rw [newF_on hl (uq hl)] at h2
          obtain ⟨t, v, q1, q2, _⟩ := on hk
          obtain ⟨t', v', q1', q2', _⟩ := on hl
          exact r.dis k l a (fun z => by subst z; rw [q2] at q2'; cases q2'; exact hij rfl) (rk q1) (rk q1') h1 h2
        · rw [newF_off hj] at h2
          exact apart hk j hj a h1 h2
      · rw [newF_off hi] at h1
        rcases dec j with ⟨l, hl⟩ | hj
        · rw [newF_on hl (uq hl)] at h2
          exact apart hl i hi a h2 h1
        · rw [newF_off hj] at h2
          exact rel2.dis i j a hij ho h1 h2
  refine ⟨relN, ⟨al.fr ro rel rel2 st2 r.fr, fun a h => st2.old a (r.old a h), fun i a ho h => ?_, fun i hi => ?_⟩, ⟨.inl r.rep, fun _ => r.rep, fun a ha => ?_, fun i a ho _ ha hm => ?_⟩⟩
  · rcases dec i with ⟨k, hk⟩ | hi
    · rw [newF_on hk (uq hk)] at h
      rcases made hk a h with z | ⟨z, _⟩ | z
      · exact .inr (st2.old a z)
      · exact .inr z
      · exact st2.gro i a ho z
    · rw [newF_off hi] at h
      exact st2.gro i a ho h
  · have hi' : ∀ k, (i, k) ∉ outsOf F.ps Ss 0 := fun k hk => by
      obtain ⟨t, v, q1, q2, q3, _⟩ := on hk
      have := ow q3
      rw [hi] at this; cases this
    rw [newF_off hi', setOuts_off hi']
    exact st2.keep i hi
  · rcases r.new a ha with z | ⟨l, ⟨t, hl⟩, hm⟩
    · exact .inl (st2.old a z)
    · rcases al.part ro rel rel2 st2 (k := l) (by rw [getD_eq hl]; rfl) hm with ⟨hn, _⟩ | ⟨i, t, q1, _⟩
      · exact .inl hn
      · rw [hl] at q1; cases q1
  · rcases dec i with ⟨k, hk⟩ | hi
    · rw [newF_on hk (uq hk)] at hm
      obtain ⟨t, v, q1, q2, q3, _⟩ := on hk
      exact r.disA k a (rk q1) ha hm
    · rw [newF_off hi] at hm
      rcases r.new a ha with z | ⟨l, ⟨t, hl⟩, hm'⟩
      · obtain ⟨xs, q⟩ := rel2.foot i a hm
        rw [z] at q; cases q
      · exact stay i hi a hm l (by rw [getD_eq hl]; rfl) hm'
/-- f(e, ..) -/
def semCall (F : Fn) (os : List (Nat × Nat)) (xs : List Dt) : M Dt := fun e => match F.sem xs with
  | .ok (d, outs) => .ok (d, setOuts outs os e)
  | .exc c ys => .exc c ys
  | .err => .err
theorem ok_callG (K : CxV g N sc lv W X) {ex : Expr} (hp : PE X ex (tCallS (spV g.toB F) (WE W) (tA g c W l1 F.ps Ss))) (ro : refOk F.ps Ss) : PE X ex (tV g c W (mb l1 fun xs => semCall F (outsOf F.ps Ss 0) xs) F.rt []) := by
  refine PE.imp hp fun σ H Q h => ?_
  obtain ⟨e, f, rel, h⟩ := h
  refine ⟨e, f, rel, at_mono (at_abs h) fun ds e2 h2 vs H2 f2 As rel2 st2 al => ?_⟩
  refine ⟨al.len.2.1, ds, _, al.rel ro rel rel2 st2, ?_⟩
  unfold at_ semCall at h2
  cases hs : F.sem ds with
  | err => rw [hs] at h2; exact h2.elim
  | exc x xs =>
    rw [hs] at h2
    intro cls dd H' hx hfr old tb
    exact h2 cls dd H' hx (al.fr ro rel rel2 st2 hfr) (fun a z => st2.old a (old a z)) tb
  | ok r =>
    obtain ⟨d, outs⟩ := r
    rw [hs] at h2
    intro v H' f' A hr
    obtain ⟨r1, r2, r3⟩ := al.ret ro rel rel2 st2 hr
    exact h2 v H' _ A r1 r2 r3
theorem ok_call (K : CxV g N sc lv W X) {x : Str} {ad : Addr} {fd : FuncData} {pn : List Str} (hF : FnOk X.prog X.w X.K X.mg X.base (L2.CX X.prog X.w) lv ad fd pn (spV g.toB F)) (hg : glB sc x = true) (hm : X.mg x = some (.ref ad)) (hk : PySem.W.keepIn X.K (.ref ad) = true) (hb : Binds X.K fd pn [])
    (ha : PA X (a :: es) (tA g c W l1 F.ps Ss)) (ro : refOk F.ps Ss) (hd : (x == ("__debug__" : Str)) = false) (he : starEach (a :: es) X.env = (false, eval a X.env) :: starEach es X.env) (hpl : (backTo p (starEach es X.env)).any (·.1) = false) :
    PE X (.Call (.Name x q) (a :: es) [] p) (tV g c W (mb l1 fun xs => semCall F (outsOf F.ps Ss 0) xs) F.rt []) := by
  exact ok_callG K (pe_callS hF K.room (gl_of K hg) hm hk hb (fun σ => passAt K.takes σ) ha hd he hpl) ro
theorem pe_callS0 {CX : CXT} {k : Nat} {f : Addr} {fd : FuncData} {ps : List Str} {sp : Sp} {x : Str} {p pos : Pos} {E : L2.St → XK} (F : FnOk X.prog X.w X.K X.mg X.base CX k f fd ps sp) (hr : Room k X.A) (hg : Gl X x) (hm : X.mg x = some (.ref f)) (hk : PySem.W.keepIn X.K (.ref f) = true) (hb : Binds X.K fd ps []) (hx : ∀ σ, PassesAt CX X σ (E σ))
    (hdb : (x == ("__debug__" : Str)) = false) : PE X (.Call (.Name x p) [] [] pos) (tCallS sp E tNil) := by
  refine ⟨fun pins s σ H Q I h => ?_⟩
  refine wpAny_Call_Name_kw (ld_glob I hg hm ?_ hdb)
  exact PySem.W.callWith_K0 I.kIn hk (run_fnS (us := []) F hr hb (hx σ) I .nil h)
/-- f() -/
theorem ok_call0 (K : CxV g N sc lv W X) {x : Str} {ad : Addr} {fd : FuncData} {pn : List Str} (hF : FnOk X.prog X.w X.K X.mg X.base (L2.CX X.prog X.w) lv ad fd pn (spV g.toB F)) (hg : glB sc x = true) (hm : X.mg x = some (.ref ad)) (hk : PySem.W.keepIn X.K (.ref ad) = true) (hb : Binds X.K fd pn [])
    (hp : F.ps = []) (hd : (x == ("__debug__" : Str)) = false) : PE X (.Call (.Name x q) [] [] p) (tV g c W (mb (mp []) fun xs => semCall F (outsOf F.ps [] 0) xs) F.rt []) := by
  have z : PE X (.Call (.Name x q) [] [] p) (tCallS (spV g.toB F) (WE W) (tA g c W (mp []) F.ps [])) := PE.imp (pe_callS0 hF K.room (gl_of K hg) hm hk hb (fun σ => passAt K.takes σ) hd) fun σ H Q ⟨e, f, rel, h⟩ =>
    (show finA g c F.ps [] σ (fun vs H1 => spV g.toB F vs H1 Q _) [] e e H f from h) [] H f [] rel Stp.refl (by rw [hp]; exact .nil)
  exact ok_callG K z (by intro k l; simp [hp])
end
end VL


set_option Elab.async false
set_option linter.all false
set_option maxRecDepth 100000
set_option maxHeartbeats 1000000
/-! VL9: paths into owned lists; what is changed there. -/
namespace VL
open PySem PySem.Spec PyProof.Rows L2
section
variable {K : PySem.W.Frag} {H H' : Hp}
theorem updAt_append {α : Type} {F : Dt → Option (α × Dt)} : ∀ {ks ls : List Dt} {d : Dt}, updAt F (ks ++ ls) d = updAt (updAt F ls) ks d := by
  intro ks
  induction ks with
  | nil => intro ls d; cases ls <;> rfl
  | cons k ks ih =>
    intro ls d
    cases k <;> cases d <;> simp only [List.cons_append, updAt]
    congr 1
    funext j
    congr 1
    funext e
    rw [ih]
theorem getAt_append : ∀ {ks ls : List Dt} {d : Dt}, getAt (ks ++ ls) d = (getAt ks d).bind (getAt ls) := by
  intro ks
  induction ks with
  | nil => intro ls d; rfl
  | cons k ks ih =>
    intro ls d
    cases k <;> cases d <;> simp only [List.cons_append, getAt, Option.bind_none]
    rw [Option.bind_assoc]
    congr 1
    funext j
    rw [Option.bind_assoc]
    congr 1
    funext e
    rw [ih]
/-- one item of an owned row, changed in place -/
theorem RepA.item {t : Ty} {xs : List V} {ds : List Dt} {A : List Addr} (h : RepA K H t xs ds A) : ∀ {k : Nat} {d : Dt}, ds[k]? = some d → ∃ w C, xs[k]? = some w ∧ Rep K H t w d C ∧ (∀ a ∈ C, a ∈ A) ∧
    ∀ H' d' C', Im H H' → (∀ a ∈ A, a ∉ C → ∀ o, H a = some o → H' a = some o) → Rep K H' t w d' C' → (∀ a ∈ C', a ∈ C ∨ a ∉ A) → ∃ A', RepA K H' t xs (ds.set k d') A' ∧ ∀ a ∈ A', (a ∈ A ∧ a ∉ C) ∨ a ∈ C' := by
  induction ds generalizing xs A with
  | nil => intro k d e; simp at e
  | cons d0 ds ih =>
    intro k d e
    cases h with
    | @cons _ v vs _ _ A B r s n =>
      cases k with
      | zero =>
        simp at e; subst e
        refine ⟨v, A, rfl, r, fun a z => List.mem_append_left _ z, fun H' d' C' im kp r' n' => ⟨C' ++ B, .cons r' (s.mono im fun a ha o q => kp a (List.mem_append_right _ ha) (fun z => n a z ha) o q) fun a h1 h2 => ?_, fun a ha => ?_⟩⟩
        · rcases n' a h1 with z | z
          · exact n a z h2
          · exact z (List.mem_append_right _ h2)
        · rcases List.mem_append.mp ha with z | z
          · exact .inr z
          · exact .inl ⟨List.mem_append_right _ z, fun y => n a y z⟩
      | succ k =>
        obtain ⟨w, C, h1, h2, h3, h4⟩ := ih s (k := k) (d := d) (by simpa using e)
        refine ⟨w, C, by simpa using h1, h2, fun a z => List.mem_append_right _ (h3 a z), fun H' d' C' im kp r' n' => ?_⟩
        obtain ⟨B', s', m'⟩ := h4 H' d' C' im (fun a ha hc o q => kp a (List.mem_append_right _ ha) hc o q) r' (fun a ha => (n' a ha).imp id fun z y => z (List.mem_append_right _ y))
        refine ⟨A ++ B', .cons (r.mono im fun a ha o q => kp a (List.mem_append_left _ ha) (fun z => n a ha (h3 a z)) o q) s' fun a h1 h2 => ?_, fun a ha => ?_⟩
        · rcases m' a h2 with ⟨z, _⟩ | z
          · exact n a h1 z
          · rcases n' a z with y | y
            · exact n a h1 (h3 a y)
            · exact y (List.mem_append_left _ h1)
        · rcases List.mem_append.mp ha with z | z
          · exact .inl ⟨List.mem_append_left _ z, fun y => n a z (h3 a y)⟩
          · rcases m' a z with ⟨y, x⟩ | y
            · exact .inl ⟨List.mem_append_right _ y, x⟩
            · exact .inr y
/-- another item put in its place -/
theorem RepA.put {t : Ty} {xs : List V} {ds : List Dt} {A : List Addr} (h : RepA K H t xs ds A) : ∀ {k : Nat} {w : V} {d : Dt} {C : List Addr}, Rep K H t w d C → (∀ a ∈ C, a ∉ A) → ∃ A', RepA K H t (xs.set k w) (ds.set k d) A' ∧ ∀ a ∈ A', a ∈ A ∨ a ∈ C := by
  induction ds generalizing xs A with
  | nil => intro k w d C r n; cases h; exact ⟨[], .nil, fun a z => by cases z⟩
  | cons d0 ds ih =>
    intro k w d C r n
    cases h with
    | @cons _ v vs _ _ A B r0 s n0 =>
      cases k with
      | zero => exact ⟨C ++ B, .cons r s fun a h1 h2 => n a h1 (List.mem_append_right _ h2), fun a ha => (List.mem_append.mp ha).elim .inr fun z => .inl (List.mem_append_right _ z)⟩
      | succ k =>
        obtain ⟨B', s', m'⟩ := ih s (k := k) r (fun a ha z => n a ha (List.mem_append_right _ z))
        refine ⟨A ++ B', .cons r0 s' fun a h1 h2 => ?_, fun a ha => ?_⟩
        · rcases m' a h2 with z | z
          · exact n0 a h1 z
          · exact n a z (List.mem_append_left _ h1)
        · rcases List.mem_append.mp ha with z | z
          · exact .inl (List.mem_append_left _ z)
          · exact (m' a z).imp (fun y => List.mem_append_right _ y) id
theorem RepA.snoc {t : Ty} {xs : List V} {ds : List Dt} {A : List Addr} (h : RepA K H t xs ds A) {w : V} {d : Dt} {C : List Addr} (r : Rep K H t w d C) (n : ∀ a ∈ C, a ∉ A) : ∃ A', RepA K H t (xs ++ [w]) (ds ++ [d]) A' ∧ ∀ a ∈ A', a ∈ A ∨ a ∈ C := by
  induction ds generalizing xs A with
  | nil => cases h; exact ⟨C ++ [], .cons r .nil (fun a _ z => by cases z), fun a z => .inr (by simpa using z)⟩
  | cons d0 ds ih =>
    cases h with
    | @cons _ v vs _ _ A B r0 s n0 =>
      obtain ⟨B', s', m'⟩ := ih s (fun a ha z => n a ha (List.mem_append_right _ z))
      refine ⟨A ++ B', .cons r0 s' fun a h1 h2 => ?_, fun a ha => ?_⟩
      · rcases m' a h2 with z | z
        · exact n0 a h1 z
        · exact n a z (List.mem_append_left _ h1)
      · rcases List.mem_append.mp ha with z | z
        · exact .inl (List.mem_append_left _ z)
        · exact (m' a z).imp (fun y => List.mem_append_right _ y) id

/-- what stands at a path, and how a change there changes all -/
structure Lens (K : PySem.W.Frag) (H : Hp) (t0 : Ty) (v0 : V) (d0 : Dt) (A0 : List Addr) (ks : List Dt) (t : Ty) (v : V) (d : Dt) (A : List Addr) : Prop where
  rep : Rep K H t v d A
  sub : ∀ a ∈ A, a ∈ A0
  get : getAt ks d0 = some d
  put : ∃ S : Dt → Dt, (∀ (α : Type) (F : Dt → Option (α × Dt)), updAt F ks d0 = (F d).map fun q => (q.1, S q.2)) ∧
    ∀ H' d' A', Im H H' → (∀ a ∈ A0, a ∉ A → ∀ o, H a = some o → H' a = some o) → Rep K H' t v d' A' → (∀ a ∈ A', a ∈ A ∨ a ∉ A0) → ∃ A1, Rep K H' t0 v0 (S d') A1 ∧ ∀ a ∈ A1, (a ∈ A0 ∧ a ∉ A) ∨ a ∈ A'
theorem Lens.nil {t : Ty} {v : V} {d : Dt} {A : List Addr} (r : Rep K H t v d A) : Lens K H t v d A [] t v d A :=
  ⟨r, fun _ z => z, rfl, id, fun α F => by simp [updAt], fun H' d' A' _ _ r' _ => ⟨A', r', fun a z => .inr z⟩⟩
variable {t0 t : Ty} {v0 v : V} {d0 d : Dt} {A0 A : List Addr} {ks : List Dt}
theorem Lens.mono (l : Lens K H t0 v0 d0 A0 ks t v d A) (im : Im H H') (k : ∀ a ∈ A0, ∀ o, H a = some o → H' a = some o) : Lens K H' t0 v0 d0 A0 ks t v d A := by
  obtain ⟨S, h1, h2⟩ := l.put
  refine ⟨l.rep.mono im fun a ha => k a (l.sub a ha), l.sub, l.get, S, h1, fun H2 d' A' im2 k2 r n => h2 H2 d' A' (im.trans im2) (fun a ha hn o q => k2 a ha hn o (k a ha o q)) r n⟩
theorem Lens.step {ds : List Dt} {i : Int} {k : Nat} (l : Lens K H t0 v0 d0 A0 ks (.ls t) v (.list ds) A) (hi : ixN ds.length i = some k) (hd : ds[k]? = some d) :
    ∃ a xs w C, v = .ref a ∧ H a = some (.lst xs) ∧ xs.length = ds.length ∧ xs[k]? = some w ∧ Lens K H t0 v0 d0 A0 (ks ++ [.int i]) t w d C := by
  obtain ⟨S, h1, h2⟩ := l.put
  have hl := l.rep
  have hsub := l.sub
  cases hl with
  | @ls _ a xs _ B e r n =>
    obtain ⟨w, C, q1, q2, q3, q4⟩ := r.item hd
    refine ⟨a, xs, w, C, rfl, e, r.length, q1, q2, fun b hb => hsub b (List.mem_cons_of_mem _ (q3 b hb)), ?_, fun d' => S (.list (ds.set k d')), fun α F => ?_, fun H' d' C' im kp r' n' => ?_⟩
    · rw [getAt_append, l.get]
      show ((ixN ds.length i).bind fun k => (ds[k]?).bind fun d => getAt [] d) = _
      rw [hi]; show ((ds[k]?).bind fun d => getAt [] d) = _; rw [hd]; rfl
    · rw [updAt_append, h1]
      show (((ixN ds.length i).bind fun k => (ds[k]?).bind fun d => (updAt F [] d).map fun q => (q.1, PyData.list (ds.set k q.2)))).map _ = _
      rw [hi]
      show (((ds[k]?).bind fun d => (updAt F [] d).map fun q => (q.1, PyData.list (ds.set k q.2)))).map _ = _
      rw [hd]
      show ((F d).map _).map _ = _
      rw [Option.map_map]
      rfl
    · have nC : a ∉ C := fun z => n (q3 a z)
      have nC' : a ∉ C' := fun z => by
        rcases n' a z with y | y
        · exact nC y
        · exact y (hsub a List.mem_cons_self)
      have e' : H' a = some (.lst xs) := kp a (hsub a List.mem_cons_self) nC _ e
      obtain ⟨B', r2, m2⟩ := q4 H' d' C' im (fun b hb hc o q => kp b (hsub b (List.mem_cons_of_mem _ hb)) hc o q) r' (fun b hb => (n' b hb).imp id fun z y => z (hsub b (List.mem_cons_of_mem _ y)))
      have nB' : a ∉ B' := fun z => by
        rcases m2 a z with ⟨y, _⟩ | y
        · exact n y
        · exact nC' y
      have nn : ∀ b ∈ a :: B', b ∈ a :: B ∨ b ∉ A0 := fun b hb => by
        rcases List.mem_cons.mp hb with y | y
        · rw [y]; exact .inl List.mem_cons_self
        · rcases m2 b y with ⟨x, _⟩ | x
          · exact .inl (List.mem_cons_of_mem _ x)
          · rcases n' b x with z | z
            · exact .inl (List.mem_cons_of_mem _ (q3 b z))
            · exact .inr z
      obtain ⟨A1, r3, m3⟩ := h2 H' (.list (ds.set k d')) (a :: B') im (fun b hb hn o q => kp b hb (fun z => hn (List.mem_cons_of_mem _ (q3 b z))) o q) (.ls e' r2 nB') nn
      refine ⟨A1, r3, fun b hb => ?_⟩
      rcases m3 b hb with ⟨y, z⟩ | y
      · exact .inl ⟨y, fun x => z (List.mem_cons_of_mem _ (q3 b x))⟩
      · rcases List.mem_cons.mp y with y | y
        · rw [y]; exact .inl ⟨hsub a List.mem_cons_self, nC⟩
        · rcases m2 b y with ⟨x, z⟩ | x
          · exact .inl ⟨hsub b (List.mem_cons_of_mem _ x), z⟩
          · exact .inr x
end

section
variable {g : G} {c : Cn} {W : WX} {N : List Str} {sc : Scope} {lv : Nat} {X : Cx} {T t t0 u : Ty} {S : List Nat} {i : Nat} {m1 : M (Nat × List Dt)} {m2 : M Dt} {l1 : M (List Dt)} {p q : Pos} {o a b : Expr} {es : List Expr} {ps : List Sl} {Ss : List (List Nat)}
variable {σ : L2.St} {e e1 e2 : Ev} {H H1 H2 H3 : Hp} {f f1 f2 f3 : Ft} {vs : List V} {ds : List Dt} {As : List (List Addr)}
def rootS (c : Cn) (i : Nat) (t : Ty) : Prop := c[i]? = some (.own t) ∨ c[i]? = some (.ref t)
theorem rootS.own (h : rootS c i t) : ownS (c.getD i .no) = true := by
  rcases h with z | z
  · rw [getD_eq z]; rfl
  · rw [getD_eq z]; rfl
theorem rootS.rep (h : rootS c i t) (r : Rel g c e σ H f) : ∃ v, σ[i]? = some (some v) ∧ Rep g.K H t v (e.getD i .none) (f i) := by
  rcases h with z | z
  · obtain ⟨w, w1, w2⟩ := r.at_ i _ z (by intro y; cases y)
    exact ⟨w, w1, w2⟩
  · obtain ⟨w, w1, w2⟩ := r.at_ i _ z (by intro y; cases y)
    exact ⟨w, w1, w2.1⟩
theorem lend_off {S : List Nat} {i : Nat} (h : i ∈ S) : ownS ((lend c S).getD i .no) = false := by
  cases q : ownS ((lend c S).getD i .no) with
  | false => rfl
  | true => exact absurd h (lend_own q).1
def finP (g : G) (c : Cn) (i : Nat) (t0 t : Ty) (σ : L2.St) (Q : VK) : Fn_ (Nat × List Dt) := fun ks e' e H f => ∀ v v0 d A H' f', Rel g c e' σ H' f' → Stp c e H f e' H' f' → ks.1 = i → σ[i]? = some (some v0) → Lens g.K H' t0 v0 (e'.getD i .none) (f' i) ks.2 t v d A → Q v H'
def tP (g : G) (c : Cn) (W : WX) (m : M (Nat × List Dt)) (i : Nat) (t0 t : Ty) : TE := fun σ H Q => ∃ e f, Rel g c e σ H f ∧ at_ g c W (finP g c i t0 t σ Q) m e f σ H
theorem ok_pnm (K : CxV g N sc lv W X) {x : Str} (hc : rootS c i t) (hN : N[i]? = some x) (hv : visB sc x = true) (hx : nmB x = true) : PE X (.Name x p) (tP g c W (mp (i, [])) i t t) := by
  unfold nmB at hx
  simp only [Bool.and_eq_true, Bool.not_eq_true'] at hx
  refine PE.imp (pe_var (i := i) (by rw [K.hN]; exact hN) (by rw [K.hsc]; exact vis_of hv) hx.1 hx.2) fun σ H Q h => ?_
  obtain ⟨e, f, rel, h⟩ := h
  have h : finP g c i t t σ Q (i, []) e e H f := h
  obtain ⟨v, h1, h2⟩ := hc.rep rel
  exact ⟨v, h1, h v v _ _ H f rel Stp.refl rfl h1 (.nil h2)⟩
/-- the root slot while it is lent -/
theorem Lens.lent {v0 v : V} {d : Dt} {A : List Addr} {ks : List Dt} (hi : i ∈ S) (ho : ownS (c.getD i .no) = true) (l : Lens g.K H1 t0 v0 (e1.getD i .none) (f1 i) ks t v d A) (rel1 : Rel g c e1 σ H1 f1) (st : Stp (lend c S) e1 H1 f1 e2 H2 f2) :
    Lens g.K H2 t0 v0 (e2.getD i .none) (f2 i) ks t v d A := by
  obtain ⟨k1, k2⟩ := st.keep i (lend_off hi)
  rw [k1, k2 (fun z => by rw [lend_no z] at ho; cases ho)]
  refine l.mono (rel1.im (st.lent rel1).fr) fun a ha o q => st.fr a o q (fun j oj hj => ?_) fun ps z => ?_
  · exact rel1.dis j i a (fun z => (lend_own oj).1 (z ▸ hi)) (lend_own oj).2 hj ha
  · obtain ⟨xs, q'⟩ := rel1.foot i a ha
    rw [z, q'] at q; cases q
theorem ok_pix (K : CxV g N sc lv W X) (hr : rootS c i t0) (ha : PE X o (tP g c W m1 i t0 (.ls t))) (hb : PE X b (tV g (lend c [i]) W m2 .sh [])) (hs : PlainIx b) :
    PE X (.Subscript o b p) (tP g c W (mb m1 fun ks => mb m2 fun k => fun e => match getAt (ks.2 ++ [k]) (e.getD ks.1 .none) with
      | some _ => .ok ((ks.1, ks.2 ++ [k]), e)
      | none => .err) i t0 t) := by
  refine PE.imp (pe_ix ix_list ha hb hs) fun σ H Q h => ?_
  obtain ⟨e, f, rel, h⟩ := h
  refine ⟨e, f, rel, at_mono (at_abs h) fun ks e1 h1 v v0 d A H1 f1 rel1 st1 hk hv0 ln => ?_⟩
  refine ⟨e1, f1, rel1.lend [i], at_mono (at_lend (at_abs (at_move h1 st1)) [i]) fun d2 e2 h2 v2 H2 f2 A2 rel2 st2 res2 => ?_⟩
  have rel2' := rel2.back rel1 st2
  have ln2 := ln.lent (S := [i]) (by simp) hr.own rel1 st2
  obtain ⟨k1, k2⟩ := ks
  cases hk
  dsimp only at h2 ln2
  unfold at_ at h2
  dsimp only at h2
  cases hg : getAt (k2 ++ [d2]) (e2.getD k1 .none) with
  | none => rw [hg] at h2; exact h2.elim
  | some d' =>
    rw [hg] at h2
    have hg2 : getAt [d2] d = some d' := by
      rw [getAt_append, ln2.get] at hg; exact hg
    cases d2 with
    | int j =>
      cases d with
      | list ds =>
        simp only [getAt] at hg2
        cases hi : ixN ds.length j with
        | none => rw [hi] at hg2; cases hg2
        | some k =>
          rw [hi] at hg2
          cases hd : ds[k]? with
          | none => simp [hd] at hg2
          | some d'' =>
            simp [hd] at hg2
            subst hg2
            obtain ⟨l, xs, w, C, rfl, e3, hl, hw, ln3⟩ := ln2.step hi hd
            refine ⟨l, xs, j, w, rfl, res2.rv.int, .inl (.inl e3), ?_, ?_⟩
            · unfold atI; rw [hl, hi]; exact hw
            · have h2 : finP g c k1 t0 t σ Q (k1, k2 ++ [.int j]) e2 e H f := h2
              exact h2 w v0 _ C H2 f2 rel2' (st1.trans (st2.lent rel1)) rfl hv0 ln3
      | _ => simp [getAt] at hg2
    | _ => simp [getAt] at hg2
/-! ### a slot's own thing changed -/
def upF (f : Ft) (i : Nat) (A : List Addr) : Ft := fun j => if j = i then A else f j
theorem upF_same {A : List Addr} : upF f i A i = A := by unfold upF; rw [if_pos rfl]
theorem upF_ne {A : List Addr} {j : Nat} (h : j ≠ i) : upF f i A j = f j := by unfold upF; rw [if_neg h]
theorem setE_same {d : Dt} (h : i < e.length) : (e.set i d).getD i .none = d := by simp [List.getD_eq_getElem?_getD, List.getElem?_set, h]
theorem setE_ne {d : Dt} {j : Nat} (h : j ≠ i) : (e.set i d).getD j .none = e.getD j .none := by simp [List.getD_eq_getElem?_getD, List.getElem?_set, Ne.symm h]
theorem rootS.lt (h : rootS c i t) (r : Rel g c e σ H f) : i < e.length := by
  rw [r.lenE, ← r.lenC]
  rcases h with z | z
  · exact (List.getElem?_eq_some_iff.mp z).1
  · exact (List.getElem?_eq_some_iff.mp z).1
theorem Rel.put {v0 : V} {d' : Dt} {A1 : List Addr} (rel2 : Rel g c e2 σ H2 f2) (st : Stp c e H f e2 H2 f2) (hr : rootS c i t0) (hv : σ[i]? = some (some v0)) (r : Rep g.K H3 t0 v0 d' A1) (im : Im H2 H3) (kp : ∀ a o, a ∉ f2 i → H2 a = some o → H3 a = some o) (old : ∀ a, H3 a = none → H2 a = none)
    (nw : ∀ a ∈ A1, a ∈ f2 i ∨ (H a = none ∧ ∀ j, a ∉ f2 j)) : Rel g c (e2.set i d') σ H3 (upF f2 i A1) ∧ Stp c e H f (e2.set i d') H3 (upF f2 i A1) := by
  have hlt := hr.lt rel2
  refine ⟨⟨by rw [List.length_set]; exact rel2.lenE, rel2.lenC, fun j sl h n => ?_, fun j h => ?_, fun j k a hjk ho h1 h2 => ?_, ?_⟩, ⟨fun a o h n nt => ?_, fun a h => st.old a (old a h), fun j a ho h => ?_, fun j h => ?_⟩⟩
  · by_cases hj : j = i
    · subst hj
      rw [upF_same, setE_same hlt]
      obtain ⟨w, w1, w2⟩ := rel2.at_ j sl h n
      rw [hv] at w1; cases w1
      refine ⟨v0, hv, ?_⟩
      rcases hr with z | z
      · rw [z] at h; cases h; exact r
      · rw [z] at h; cases h; exact ⟨r, w2.2⟩
    · rw [upF_ne hj, setE_ne hj]
      obtain ⟨w, w1, w2⟩ := rel2.at_ j sl h n
      exact ⟨w, w1, w2.mono im fun a ha o q => kp a o (rel2.dis i j a (Ne.symm hj) hr.own · ha) q⟩
  · by_cases hj : j = i
    · subst hj; have := hr.own; rw [h] at this; cases this
    · rw [upF_ne hj]; exact rel2.free j h
  · by_cases hj : j = i
    · subst hj
      rw [upF_same] at h1
      rw [upF_ne (Ne.symm hjk)] at h2
      rcases nw a h1 with z | ⟨_, z⟩
      · exact rel2.dis j k a hjk hr.own z h2
      · exact z k h2
    · rw [upF_ne hj] at h1
      by_cases hk : k = i
      · subst hk
        rw [upF_same] at h2
        rcases nw a h2 with z | ⟨_, z⟩
        · exact rel2.dis k j a (Ne.symm hjk) hr.own z h1
        · exact z j h1
      · rw [upF_ne hk] at h2
        exact rel2.dis j k a hjk ho h1 h2
  · refine g.tm _ _ (fun a o q n _ => kp a o (fun z => ?_) q) rel2.tabs
    obtain ⟨xs, q'⟩ := rel2.foot i a z
    rw [q] at q'; cases q'; exact n _ rfl
  · refine kp a o (fun z => ?_) (st.fr a o h n nt)
    rcases st.gro i a hr.own z with ⟨j, hj, y, _⟩ | y
    · exact n j hj y
    · rw [h] at y; cases y
  · by_cases hj : j = i
    · subst hj
      rw [upF_same] at h
      rcases nw a h with z | ⟨z, _⟩
      · exact st.gro j a ho z
      · exact .inr z
    · rw [upF_ne hj] at h; exact st.gro j a ho h
  · have hj : j ≠ i := fun z => by subst z; rw [hr.own] at h; cases h
    rw [upF_ne hj, setE_ne hj]
    exact st.keep j h

/-! ### methods that change their list -/
/-- what such a method does -/
def MutOk (K : PySem.W.Frag) (r : V → List V → Hp → VK → Prop) (m : Mth) (u : Ty) (ok : List V → List Dt → List (List Addr) → Hp → Prop) : Prop :=
  ∀ (H : Hp) (v : V) (d : Dt) (A : List Addr) (vs : List V) (ds : List Dt) (As : List (List Addr)) (res d' : Dt) (Q : VK), Rep K H (.ls u) v d A → ok vs ds As H → (∀ B ∈ As, ∀ a ∈ B, a ∉ A) → apMth m d ds = some (res, d') →
    (∀ x H' A', Sh K H' x res → Rep K H' (.ls u) v d' A' → (∀ a ∈ A', a ∈ A ∨ ∃ B ∈ As, a ∈ B) → (∀ a o, a ∉ A → H a = some o → H' a = some o) → (∀ a, H' a = none → H a = none) → Q x H') → r v vs H Q
/-- the change itself -/
theorem mut_fin {r : V → List V → Hp → VK → Prop} {m : Mth} {ok : List V → List Dt → List (List Addr) → Hp → Prop} (hm : MutOk g.K r m u ok) (hr : rootS c i t0) {ks : Nat × List Dt} {v v0 : V} {d : Dt} {A : List Addr} {Q : VK} {Bs : List (List Addr)}
    (rel1 : Rel g c e1 σ H1 f1) (st1 : Stp c e H f e1 H1 f1) (hk : ks.1 = i) (hv0 : σ[i]? = some (some v0)) (ln : Lens g.K H1 t0 v0 (e1.getD i .none) (f1 i) ks.2 (.ls u) v d A) (rel2 : Rel g (lend c [i]) e2 σ H2 f2) (st2 : Stp (lend c [i]) e1 H1 f1 e2 H2 f2)
    (hok : ok vs ds Bs H2) (hn : ∀ B ∈ Bs, ∀ a ∈ B, H1 a = none) (hd : ∀ B ∈ Bs, ∀ a ∈ B, ∀ j, a ∉ f2 j)
    (h : at_ g c W (fun y e2 _ _ _ => finV g c .sh [] σ Q y e2 e H f) (fun e => match updAt (fun d => apMth m d ds) ks.2 (e.getD ks.1 .none) with
      | some (r, d) => .ok (r, e.set ks.1 d)
      | none => .err) e2 f1 σ H1) : r v vs H2 Q := by
  subst hk
  have rel2' := rel2.back rel1 st2
  have st2' := st1.trans (st2.lent rel1)
  have ln2 := ln.lent (S := [ks.1]) (by simp) hr.own rel1 st2
  obtain ⟨S, hS, hp⟩ := ln2.put
  unfold at_ at h
  dsimp only at h
  rw [hS] at h
  cases hq : apMth m d ds with
  | none => rw [hq] at h; exact h.elim
  | some w =>
    obtain ⟨res, d'⟩ := w
    rw [hq] at h
    have h : finV g c .sh [] σ Q res (e2.set ks.1 (S d')) e H f := h
    have k1 := (st2.keep ks.1 (lend_off (by simp))).1
    have fr : ∀ B ∈ Bs, ∀ a ∈ B, H a = none := fun B hB a ha => st1.old a (hn B hB a ha)
    refine hm H2 v d A vs ds Bs res d' Q ln2.rep hok (fun B hB a ha z => hd B hB a ha ks.1 (ln2.sub a z)) hq fun x H3 A' hx r' hA kp old => ?_
    have im : Im H2 H3 := fun b o q io => kp b o (fun z => by
      obtain ⟨ys, q'⟩ := ln2.rep.foot b z
      rw [q] at q'; cases q'; cases io) q
    obtain ⟨A1, r1, m1⟩ := hp H3 d' A' im (fun a ha hn o q => kp a o hn q) r' (fun a ha => (hA a ha).imp id fun ⟨B, hB, hb⟩ => hd B hB a hb ks.1)
    obtain ⟨rel3, st3⟩ := rel2'.put st2' hr hv0 r1 im (fun a o hn q => kp a o (fun z => hn (ln2.sub a z)) q) old fun a ha => by
      rcases m1 a ha with ⟨z, _⟩ | z
      · exact .inl z
      · rcases hA a z with y | ⟨B, hB, hb⟩
        · exact .inl (ln2.sub a y)
        · exact .inr ⟨fr B hB a hb, hd B hB a hb⟩
    exact h x H3 _ [] rel3 st3 ⟨.inl (.sh hx), fun _ => .sh hx, (fun _ z => by cases z), fun _ _ _ _ z => by cases z⟩
theorem lst_ty {v : V} {d : Dt} {A : List Addr} (r : Rep g.K H (.ls u) v d A) : tyV g.K "list" v H := by
  cases r with | ls e _ _ => exact .inl ⟨rfl, _, .inl (.inl e)⟩
/-- an argument's own part, told to the list -/
theorem own_off {A : List Addr} {v : V} {d : Dt} (rel1 : Rel g c e1 σ H1 f1) (st2 : Stp (lend c [i]) e1 H1 f1 e2 H2 f2) (r : Res g (lend c [i]) [] T H1 H2 f2 v d A) : (∀ a ∈ A, H1 a = none) ∧ ∀ a ∈ A, ∀ j, a ∉ f2 j := by
  have n : ∀ a ∈ A, H1 a = none := fun a ha => by
    rcases r.new a ha with z | ⟨j, hj, _⟩
    · exact z
    · cases hj
  refine ⟨n, fun a ha j hm => ?_⟩
  cases q : ownS ((lend c [i]).getD j .no) with
  | true => exact r.dis j a q (by simp) ha hm
  | false =>
    rw [(st2.keep j q).1] at hm
    obtain ⟨xs, z⟩ := rel1.foot j a hm
    rw [n a ha] at z; cases z
theorem ok_mut1 (K : CxV g N sc lv W X) {r : V → List V → Hp → VK → Prop} {m : Mth} {ok : List V → List Dt → List (List Addr) → Hp → Prop} {id : String} (hm : MutOk g.K r m u ok) (hr : rootS c i t0) (slot : Slot "list" m.name id) (hty : typeOf (.builtin id) = pure (.type "method_descriptor")) (hmt : MtR X id r)
    (hP : PE X o (tP g c W m1 i t0 (.ls u))) (ha : PA X (a :: es) (tA g (lend c [i]) W l1 ps Ss))
    (hok : ∀ σ e e1 e2 H1 H2 f1 f2 vs ds As, Rel g c e1 σ H1 f1 → Stp (lend c [i]) e1 H1 f1 e2 H2 f2 → AL g (lend c [i]) σ e H1 H2 f2 ps Ss vs ds As → ∃ Bs, ok vs ds Bs H2 ∧ (∀ B ∈ Bs, ∀ a ∈ B, H1 a = none) ∧ ∀ B ∈ Bs, ∀ a ∈ B, ∀ j, a ∉ f2 j)
    (hbase : attributeBase o (Str.ofString m.name) X.env (eval o X.env) = eval o X.env)
    (hfew : ((backTo p (starEach (a :: es) X.env)).all (fun x => !x.1) && (backToKw p (keywordEach [] X.env)).all (fun x => x.1.isSome)
      && decide ((a :: es).length + ([] : List Keyword).length + (if ([] : List Keyword).isEmpty then 0 else 1) < 30)) = true)
    (hline : (q.endLine == p.line) = true) (hs : starEach (a :: es) X.env = (false, eval a X.env) :: starEach es X.env) (hplain : (backTo p (starEach es X.env)).any (·.1) = false) :
    PE X (.Call (.Attribute o (Str.ofString m.name) q) (a :: es) [] p) (tV g c W (mb m1 fun ks => mb l1 fun xs => fun e => match updAt (fun d => apMth m d xs) ks.2 (e.getD ks.1 .none) with
      | some (r, d) => .ok (r, e.set ks.1 d)
      | none => .err) .sh []) := by
  refine PE.imp (pe_bm PySem.F.plainAttrs_list slot hty hmt hP ha hbase hfew hline hs hplain) fun σ H Q h => ?_
  obtain ⟨e, f, rel, h⟩ := h
  refine ⟨e, f, rel, at_mono (at_abs h) fun ks e1 h1 v v0 d A H1 f1 rel1 st1 hk hv0 ln => ⟨by rw [K.hK]; exact lst_ty ln.rep, ?_⟩⟩
  refine ⟨e1, f1, rel1.lend [i], at_mono (at_lend (at_abs (at_move h1 st1)) [i]) fun ds e2 h2 vs H2 f2 As rel2 st2 al => ?_⟩
  obtain ⟨Bs, o1, o2, o3⟩ := hok σ e2 e1 e2 H1 H2 f1 f2 vs ds As rel1 st2 al
  exact mut_fin hm hr rel1 st1 hk hv0 ln rel2 st2 o1 o2 o3 h2
theorem ok_mut0 (K : CxV g N sc lv W X) {r : V → List V → Hp → VK → Prop} {m : Mth} {id : String} (hm : MutOk g.K r m u fun vs ds Bs _ => vs = [] ∧ ds = [] ∧ Bs = []) (hr : rootS c i t0) (slot : Slot "list" m.name id) (hty : typeOf (.builtin id) = pure (.type "method_descriptor")) (hmt : MtR X id r)
    (hP : PE X o (tP g c W m1 i t0 (.ls u))) (hbase : attributeBase o (Str.ofString m.name) X.env (eval o X.env) = eval o X.env) (hline : (q.endLine == p.line) = true) :
    PE X (.Call (.Attribute o (Str.ofString m.name) q) [] [] p) (tV g c W (mb m1 fun ks => mb (mp []) fun xs => fun e => match updAt (fun d => apMth m d xs) ks.2 (e.getD ks.1 .none) with
      | some (r, d) => .ok (r, e.set ks.1 d)
      | none => .err) .sh []) := by
  refine PE.imp (pe_bm0 PySem.F.plainAttrs_list slot hty hmt hP hbase hline) fun σ H Q h => ?_
  obtain ⟨e, f, rel, h⟩ := h
  refine ⟨e, f, rel, at_mono (at_abs h) fun ks e1 h1 v v0 d A H1 f1 rel1 st1 hk hv0 ln => ⟨by rw [K.hK]; exact lst_ty ln.rep, ?_⟩⟩
  have h2 : at_ g c W (fun y e2 _ _ _ => finV g c .sh [] σ Q y e2 e H f) (fun e => match updAt (fun d => apMth m d []) ks.2 (e.getD ks.1 .none) with
      | some (r, d) => .ok (r, e.set ks.1 d)
      | none => .err) e1 f1 σ H1 := at_move (F := fun y e2 => finV g c .sh [] σ Q y e2 e H f) h1 st1
  exact mut_fin (Bs := []) hm hr rel1 st1 hk hv0 ln (rel1.lend [i]) Stp.refl ⟨rfl, rfl, rfl⟩ (fun _ z => by cases z) (fun _ z => by cases z) h2
end
section
variable {K : PySem.W.Frag} {u : Ty}
theorem up_keep {H : Hp} {l : Addr} {x : HO} {A : List Addr} (h : l ∈ A) : ∀ a o, a ∉ A → H a = some o → (upd H l x) a = some o := fun a o n q => by
  rw [upd_ne (show a ≠ l from fun z => n (by rw [z]; exact h))]; exact q
theorem up_old {H : Hp} {l : Addr} {x : HO} : ∀ a, (upd H l x) a = none → H a = none := fun a z => by
  by_cases h : a = l
  · subst h; rw [upd_same] at z; cases z
  · rw [upd_ne h] at z; exact z
theorem up_im {H : Hp} {l : Addr} {xs ys : List V} (e : H l = some (.lst xs)) : Im H (upd H l (.lst ys)) := fun a o q i => by
  rw [upd_ne (fun z => by subst z; rw [e] at q; cases q; cases i)]; exact q
theorem mut_append : MutOk K rAppend .append u fun vs ds Bs H => ∃ v d B, vs = [v] ∧ ds = [d] ∧ Bs = [B] ∧ Rep K H u v d B := by
  intro H v d A vs ds As res d' Q r ⟨w, dw, B, h1, h2, h3, rw'⟩ n e k
  subst h1; subst h2; subst h3
  cases r with
  | @ls _ l xs ds0 A0 el rA nl =>
    simp only [apMth] at e
    split at e
    · rename_i hl
      cases e
      have nB : ∀ a ∈ B, a ∉ A0 := fun a ha z => n B (by simp) a ha (List.mem_cons_of_mem _ z)
      have lB : l ∉ B := fun z => n B (by simp) l z List.mem_cons_self
      obtain ⟨A1, r1, m1⟩ := rA.snoc rw' nB
      refine ⟨l, xs, w, rfl, rfl, el, by rw [rA.length]; exact hl, k .non _ (l :: A1) .non (.ls upd_same (r1.mono (up_im el) fun a ha o q => ?_) fun z => ?_) (fun a ha => ?_) (up_keep List.mem_cons_self) up_old⟩
      · rw [upd_ne fun z => ?_]; exact q
        subst z
        rcases m1 a ha with y | y
        · exact nl y
        · exact lB y
      · rcases m1 l z with y | y
        · exact nl y
        · exact lB y
      · rcases List.mem_cons.mp ha with y | y
        · rw [y]; exact .inl List.mem_cons_self
        · rcases m1 a y with z | z
          · exact .inl (List.mem_cons_of_mem _ z)
          · exact .inr ⟨B, by simp, z⟩
    · cases e
def rExtendR : V → List V → Hp → VK → Prop := fun x vs H Q => ∃ l b xs zs, x = .ref l ∧ vs = [.ref b] ∧ H l = some (.lst xs) ∧ Rd H b (.lst zs) ∧ xs.length + zs.length ≤ sizeLine ∧ Q .non (upd H l (.lst (xs ++ zs)))
theorem mt_extendR {X : Cx} : MtR X "list.extend" rExtendR := by
  intro pins s σ H x vs v us Q I rx rv h
  obtain ⟨l, b, xs, zs, rfl, rfl, hH, hB, hz, q⟩ := h
  cases rx
  obtain ⟨u, rfl, ru⟩ := rv.one
  cases ru
  obtain ⟨z, its, n, r, hl, e⟩ := I.lstM hH
  obtain ⟨its2, n2, r2, hl2, e2⟩ : ∃ (its : List Value) (n : Nat), Vals zs its ∧ zs.length = its.length ∧ s.heap.get? b = some { cls := .type "list", data := .seq its.toArray n } := by
    rcases hB with hB | ⟨o, hB⟩
    · obtain ⟨_, its, n, r, hl, e⟩ := I.lstM hB
      exact ⟨its, n, r, hl, e⟩
    · obtain ⟨e, _, its, n, r, e'⟩ := (show ObjOk X.prog X.w H s.heap b (.frz o (.lst zs)) from I.hok b _ hB)
      exact ⟨its, n, r, r.length, e'⟩
  have hsz : its.toArray.size + its2.toArray.size ≤ sizeLine := by rw [List.size_toArray, List.size_toArray]; omega
  have hlong : ¬ (!its.toArray.isEmpty && Builtin.List.listTooLong (its.toArray.size + its2.toArray.size)) = true := by
    rw [notLongL hsz, Bool.and_false]
    exact Bool.false_ne_true
  refine call_meets F.slot_list_extend ⟨_, e, rfl⟩ F.entry_list_extend (F.args_list_extend_2 _ _)
    (AutoSeq1.list_extend_list_list_0 l its.toArray n b its2.toArray n2 hlong (by rw [List.size_toArray]; omega) (by omega)) ⟨e, e2, ?_⟩
  refine ⟨.non, _, I.lset (its' := its ++ its2) hH e (by simp) (r.append r2) ?_, rfl, q⟩
  rw [List.length_append]
  omega
theorem mut_extend : MutOk K rExtendR .extend .sh fun vs ds Bs H => ∃ v d, vs = [v] ∧ ds = [d] ∧ Bs = [] ∧ Vw K H v d := by
  intro H v d A vs ds As res d' Q r ⟨w, dw, h1, h2, h3, rw'⟩ n e k
  subst h1; subst h2; subst h3
  cases r with
  | @ls _ l xs ds0 A0 el rA nl =>
    obtain ⟨sA, hA⟩ := rA.sh
    subst hA
    cases dw with
    | list ys =>
      simp only [apMth] at e
      split at e
      · rename_i hl
        cases e
        obtain ⟨b, zs, rfl, hb, sz⟩ := rw'.lst
        refine ⟨l, b, xs, zs, rfl, rfl, el, hb, by rw [rA.length, sz.length]; exact hl, k .non _ [l] .non (.ls upd_same (RepA.of_sh ((sA.append sz).mono (up_im el))) (by simp)) (fun a ha => .inl ha) (up_keep List.mem_cons_self) up_old⟩
      · cases e
    | _ => simp [apMth] at e
theorem ShA.eraseIdx {H : Hp} : ∀ {vs : List V} {ds : List Dt} (n : Nat), ShA K H vs ds → ShA K H (vs.eraseIdx n) (ds.eraseIdx n)
  | _, _, _, .nil => .nil
  | _, _, 0, .cons _ t => t
  | _, _, n + 1, .cons r t => .cons r (ShA.eraseIdx n t)
theorem mut_pop : MutOk K rPop .pop .sh fun vs ds Bs _ => vs = [] ∧ ds = [] ∧ Bs = [] := by
  intro H v d A vs ds As res d' Q r ⟨h1, h2, h3⟩ n e k
  subst h1; subst h2; subst h3
  cases r with
  | @ls _ l xs ds0 A0 el rA nl =>
    obtain ⟨sA, hA⟩ := rA.sh
    subst hA
    simp only [apMth] at e
    simp only [Option.map_eq_some_iff] at e
    obtain ⟨x, hx, e⟩ := e
    cases e
    obtain ⟨w, hw, sw⟩ := sA.get hx
    refine ⟨l, xs, w, rfl, rfl, el, by rw [rA.length]; exact hw, k w _ [l] (sw.mono (up_im el)) (.ls upd_same (RepA.of_sh ?_) (by simp)) (fun a ha => .inl ha) (up_keep List.mem_cons_self) up_old⟩
    have z := (sA.take (ds0.length - 1)).mono (up_im (ys := xs.dropLast) el)
    rw [List.dropLast_eq_take, List.dropLast_eq_take, rA.length]
    rw [List.dropLast_eq_take, rA.length] at z
    exact z
theorem mut_popAt : MutOk K rPopAt .pop .sh fun vs ds Bs H => ∃ v d, vs = [v] ∧ ds = [d] ∧ Bs = [] ∧ Sh K H v d := by
  intro H v d A vs ds As res d' Q r ⟨w0, dw, h1, h2, h3, hs⟩ n e k
  subst h1; subst h2; subst h3
  cases r with
  | @ls _ l xs ds0 A0 el rA nl =>
    obtain ⟨sA, hA⟩ := rA.sh
    subst hA
    cases dw with
    | int i =>
      cases hs
      simp only [apMth] at e
      split at e
      · rename_i hi
        simp only [Option.bind_eq_some_iff, Option.map_eq_some_iff] at e
        obtain ⟨j, hj, x, hx, e⟩ := e
        cases e
        obtain ⟨w, hw, sw⟩ := sA.get hx
        rw [← rA.length] at hj
        obtain ⟨q1, q2, q3, q4⟩ := ixN_seq hj
        unfold inR at hi
        simp only [Bool.and_eq_true, decide_eq_true_eq] at hi
        exact ⟨l, xs, i, j, w, rfl, rfl, el, by omega, by omega, q1, hw, k w _ [l] (sw.mono (up_im el)) (.ls upd_same (RepA.of_sh ((sA.eraseIdx j).mono (up_im el))) (by simp)) (fun a ha => .inl ha) (up_keep List.mem_cons_self) up_old⟩
      · cases e
    | _ => simp [apMth] at e
end
end VL


set_option Elab.async false
set_option linter.all false
set_option maxRecDepth 100000
set_option maxHeartbeats 1000000
/-! VL10: targets of names; what loops go over; list comprehensions. -/
namespace VL
open PySem PySem.Spec PyProof.Rows L2

/-! ### targets of names -/
def slN : Ty → Sl
  | .sh => .own .sh
  | t => .bor t
mutual
def stC (t : Ty) : Tg → Cn → Cn
  | .nm _ i _, c => c.set i (slN t)
  | .tp ts _, c => stCs ts c
  | .at _, c => c
def stCs : Tgs → Cn → Cn
  | .nil, c => c
  | .cons t r, c => stCs r (stC .sh t c)
end
mutual
def tgIx : Tg → List Nat
  | .nm _ i _ => [i]
  | .tp ts _ => tgIxs ts
  | .at _ => []
def tgIxs : Tgs → List Nat
  | .nil => []
  | .cons t r => tgIx t ++ tgIxs r
end
def Tgs.len : Tgs → Nat
  | .nil => 0
  | .cons _ r => r.len + 1
def locB (fs sc : Scope) (x : Str) : Bool := sc.names.lookup x == some .local || (sc.names.lookup x == some .cell && fs.names.lookup x == some .cell)
mutual
/-- names alone; a row of them only of shared things -/
def tgOk (fs sc : Scope) (N : List Str) (c : Cn) : Tg → Bool
  | .nm x i _ => N[i]? == some x && locB fs sc x && decide (i < c.length)
  | .tp ts _ => tgsOk fs sc N c ts
  | .at _ => false
def tgsOk (fs sc : Scope) (N : List Str) (c : Cn) : Tgs → Bool
  | .nil => true
  | .cons t r => tgOk fs sc N c t && tgsOk fs sc N c r
end
mutual
def gR (K : PySem.W.Frag) : Tg → TG
  | .nm _ i _ => gName i
  | .tp ts _ => gTup K ts.len (gRs K ts)
  | .at _ => fun _ _ _ _ => False
def gRs (K : PySem.W.Frag) : Tgs → TGs
  | .nil => gNil
  | .cons t r => gCons (gR K t) (gRs K r)
end
def FnV (fs : Scope) (X : Cx) : Prop := ∀ x, fs.names.lookup x = some .cell → X.fn x = true
section
variable {g : G} {c : Cn} {W : WX} {N : List Str} {sc fs : Scope} {lv : Nat} {X : Cx}
theorem loc_of (F : FnV fs X) {x : Str} (h : locB fs sc x = true) : Loc sc x ∧ (X.fn x = true ∨ sc.names.lookup x = some .local) := by
  unfold locB at h
  simp only [Bool.or_eq_true, Bool.and_eq_true, beq_iff_eq] at h
  rcases h with h | ⟨h1, h2⟩
  · exact ⟨.inl h, .inr h⟩
  · exact ⟨.inr h1, .inl (F x h2)⟩
theorem asg_cons (t : Tg) (es : List Expr) (env : Env) : assignEach (pyt t :: es) env = (false, assign (pyt t) env) :: assignEach es env := by
  cases t with
  | nm x i p => rfl
  | tp ts p => rfl
  | «at» b => cases b <;> rfl
theorem asg_len (env : Env) : ∀ ts : Tgs, (assignEach (pyts ts) env).length = ts.len ∧ (assignEach (pyts ts) env).findIdx? (·.1) = none
  | .nil => ⟨rfl, rfl⟩
  | .cons t r => by
    obtain ⟨h1, h2⟩ := asg_len env r
    unfold pyts
    rw [asg_cons]
    refine ⟨by rw [List.length_cons, h1]; rfl, ?_⟩
    rw [List.findIdx?_cons]
    simp [h2]
mutual
theorem pg_tg (K : CxV g N sc lv W X) (F : FnV fs X) : ∀ (t : Tg), tgOk fs sc N c t = true → PG X (pyt t) (gR X.K t)
  | .nm x i p, h => by
    simp only [tgOk, Bool.and_eq_true, beq_iff_eq] at h
    obtain ⟨h1, h2⟩ := loc_of F h.1.2
    exact pg_name (by rw [K.hN]; exact K.hnd) (by rw [K.hN]; exact h.1.1) (by rw [K.hsc]; exact h1) (by rw [K.hsc]; exact h2)
  | .tp ts p, h => by
    obtain ⟨h1, h2⟩ := asg_len X.env ts
    exact pg_tup K.calm (pgs_tg K F ts (by simpa only [tgOk] using h)) h1 h2
  | .at b, h => by simp [tgOk] at h
theorem pgs_tg (K : CxV g N sc lv W X) (F : FnV fs X) : ∀ (t : Tgs), tgsOk fs sc N c t = true → PGs X (pyts t) (gRs X.K t)
  | .nil, _ => pgs_nil
  | .cons t r, h => by
    simp only [tgsOk, Bool.and_eq_true] at h
    refine pgs_cons (pg_tg K F t h.1) (pgs_tg K F r h.2) ?_
    show (assignEach (pyt t :: pyts r) X.env).map (·.2) = _
    rw [asg_cons]
    rfl
end
end
section
variable {g : G} {TT : List Fn} {σ σ' : L2.St} {e e' : Ev} {H : Hp} {f f' : Ft}
/-- what a store into names changes -/
structure Sto (vs : List Nat) (e e' : Ev) (σ σ' : L2.St) (f f' : Ft) : Prop where
  off : ∀ j, j ∉ vs → f' j = f j ∧ e'.getD j .none = e.getD j .none ∧ σ'[j]? = σ[j]?
  len : e'.length = e.length ∧ σ'.length = σ.length
theorem Sto.refl {vs : List Nat} : Sto vs e e σ σ f f := ⟨fun _ _ => ⟨rfl, rfl, rfl⟩, rfl, rfl⟩
theorem Sto.trans {vs : List Nat} {e1 e2 e3 : Ev} {s1 s2 s3 : L2.St} {f1 f2 f3 : Ft} (a : Sto vs e1 e2 s1 s2 f1 f2) (b : Sto vs e2 e3 s2 s3 f2 f3) : Sto vs e1 e3 s1 s3 f1 f3 :=
  ⟨fun j h => ⟨(b.off j h).1.trans (a.off j h).1, (b.off j h).2.1.trans (a.off j h).2.1, (b.off j h).2.2.trans (a.off j h).2.2⟩, b.len.1.trans a.len.1, b.len.2.trans a.len.2⟩
theorem Sto.sub {vs ws : List Nat} (h : ∀ j ∈ vs, j ∈ ws) (a : Sto vs e e' σ σ' f f') : Sto ws e e' σ σ' f f' := ⟨fun j n => a.off j fun z => n (h j z), a.len⟩
theorem cset_get {c : Cn} {i j : Nat} {s : Sl} : (c.set i s)[j]? = if i = j ∧ j < c.length then some s else c[j]? := by
  rw [List.getElem?_set]
  by_cases h : i = j
  · subst h
    by_cases hl : i < c.length
    · simp [hl]
    · simp [hl]
  · simp [h]
/-- one name -/
theorem store1 {c : Cn} {t : Ty} {i : Nat} {v : V} {d : Dt} {B : List Addr} (rel : Rel g c e σ H f) (hi : i < c.length) (rv : Rv g.K H t v d B) (dis : ∀ a ∈ B, ∀ j, ownS (c.getD j .no) = true → a ∉ f j) :
    ∃ f', Rel g (c.set i (slN t)) (e.set i d) (σ.set i (some v)) H f' ∧ Sto [i] e (e.set i d) σ (σ.set i (some v)) f f' ∧ (f' i = [] ∨ f' i = B) ∧ (ownS (slN t) = true → f' i = []) := by
  have nb : ownS (slN t) = true → t = .sh := fun h => by cases t <;> simp [slN, ownS] at h ⊢
  have hB : t = .sh → B = [] := fun z => by
    subst z
    rcases rv with r | r
    · exact rep_nil r (fun u z => by cases z) (fun z => by cases z)
    · exact r.2
  refine ⟨upF f i B, ⟨by rw [List.length_set, List.length_set]; exact rel.lenE, by rw [List.length_set, List.length_set]; exact rel.lenC, fun j sl h n => ?_, fun j h => ?_, fun j k a hjk ho h1 h2 => ?_, rel.tabs⟩,
    ⟨fun j hj => ?_, by rw [List.length_set], by rw [List.length_set]⟩, .inr upF_same, fun h => by rw [upF_same]; exact hB (nb h)⟩
  · rw [cset_get] at h
    by_cases hj : i = j
    · subst hj
      simp only [hi, and_self, if_true, Option.some.injEq] at h
      subst h
      refine ⟨v, by rw [List.getElem?_set_self (by rw [← rel.lenC]; exact hi)], ?_⟩
      rw [upF_same, setE_same (by rw [rel.lenE, ← rel.lenC]; exact hi)]
      cases t with
      | sh => exact (show Rep g.K H .sh v d B by
          rcases rv with r | r
          · exact r
          · rw [r.2]; exact .sh r.1)
      | ls u => exact rv
      | ks => exact rv
    · simp only [hj, false_and, if_false] at h
      obtain ⟨w, h1, h2⟩ := rel.at_ j sl h n
      exact ⟨w, by rw [List.getElem?_set_ne hj]; exact h1, by rw [upF_ne (Ne.symm hj), setE_ne (Ne.symm hj)]; exact h2⟩
  · by_cases hj : i = j
    · subst hj
      rw [List.getD_eq_getElem?_getD, cset_get] at h
      simp only [hi, and_self, if_true, Option.getD_some] at h
      cases t <;> cases h
    · rw [upF_ne (Ne.symm hj)]
      refine rel.free j ?_
      rw [List.getD_eq_getElem?_getD, cset_get] at h
      simpa [hj] using h
  · by_cases hj : i = j
    · subst hj
      rw [List.getD_eq_getElem?_getD, cset_get] at ho
      simp only [hi, and_self, if_true, Option.getD_some] at ho
      rw [upF_same, hB (nb ho)] at h1; cases h1
    · rw [upF_ne (Ne.symm hj)] at h1
      have ho' : ownS (c.getD j .no) = true := by
        rw [List.getD_eq_getElem?_getD, cset_get] at ho
        simpa [hj] using ho
      by_cases hk : i = k
      · subst hk
        rw [upF_same] at h2
        exact dis a h2 j ho' h1
      · rw [upF_ne (Ne.symm hk)] at h2
        exact rel.dis j k a hjk ho' h1 h2
  · have hj : j ≠ i := by simpa using hj
    exact ⟨upF_ne hj, setE_ne hj, List.getElem?_set_ne (Ne.symm hj)⟩
theorem Rv.tupA {K : PySem.W.Frag} {H : Hp} {t : Ty} {v : V} {ds : List Dt} {A : List Addr} (h : Rv K H t v (.tuple ds) A) : ∃ a xs, v = .ref a ∧ SqT K H a xs ∧ ShA K H xs ds := by
  have s : Sh K H v (.tuple ds) := by
    rcases h with h | h
    · cases h with | sh s => exact s
    · exact h.1
  cases s with | tup e s => exact ⟨_, _, rfl, e.sq, s⟩
mutual
theorem stC_len : ∀ (tg : Tg) {t : Ty} {c : Cn}, (stC t tg c).length = c.length
  | .nm x i p, t, c => by simp [stC]
  | .tp ts p, t, c => by simp only [stC]; exact stCs_len ts
  | .at b, t, c => rfl
theorem stCs_len : ∀ (ts : Tgs) {c : Cn}, (stCs ts c).length = c.length
  | .nil, c => rfl
  | .cons t r, c => by simp only [stCs]; rw [stCs_len r, stC_len t]
end
mutual
theorem tgOk_len : ∀ (tg : Tg) {c c' : Cn}, c'.length = c.length → tgOk fs sc N c' tg = tgOk fs sc N c tg
  | .nm x i p, c, c', h => by simp [tgOk, h]
  | .tp ts p, c, c', h => by simp only [tgOk]; exact tgsOk_len ts h
  | .at b, c, c', h => rfl
theorem tgsOk_len : ∀ (ts : Tgs) {c c' : Cn}, c'.length = c.length → tgsOk fs sc N c' ts = tgsOk fs sc N c ts
  | .nil, c, c', h => rfl
  | .cons t r, c, c', h => by simp only [tgsOk]; rw [tgOk_len t h, tgsOk_len r h]
end
theorem bnds_len : ∀ (ts : Tgs) {ds : List Dt} {e e' : Ev}, bnds TT ts ds e = .ok ((), e') → ds.length = ts.len
  | .nil, [], e, e', h => rfl
  | .nil, d :: ds, e, e', h => by simp [bnds] at h
  | .cons t r, [], e, e', h => by simp [bnds] at h
  | .cons t r, d :: ds, e, e', h => by
    simp only [bnds, mb] at h
    cases h1 : bnd TT t d e with
    | err => rw [h1] at h; cases h
    | exc x xs => rw [h1] at h; cases h
    | ok q =>
      obtain ⟨⟨⟩, e1⟩ := q
      rw [h1] at h
      simp only [Tgs.len, List.length_cons]
      rw [bnds_len r h]
mutual
theorem bnd_h : ∀ (tg : Tg) {t : Ty} {c : Cn} {v : V} {d : Dt} {B : List Addr} {σ : L2.St} {e e' : Ev} {f : Ft} {Q : L2.St → Hp → Prop}, tgOk fs sc N c tg = true → (t = .sh ∨ ∃ x i p, tg = .nm x i p) → Rel g c e σ H f → Rv g.K H t v d B → (∀ a ∈ B, ∀ j, ownS (c.getD j .no) = true → a ∉ f j) →
    bnd TT tg d e = .ok ((), e') → (∀ σ' f', Rel g (stC t tg c) e' σ' H f' → Sto (tgIx tg) e e' σ σ' f f' → (∀ j ∈ tgIx tg, (f' j = [] ∨ f' j = B) ∧ (ownS ((stC t tg c).getD j .no) = true → f' j = [])) → Q σ' H) → gR g.K tg v σ H Q
  | .nm x i p, t, c, v, d, B, σ, e, e', f, Q, ok, _, rel, rv, dis, hb, hq => by
    simp only [tgOk, Bool.and_eq_true, decide_eq_true_eq] at ok
    simp only [bnd, R.ok.injEq, Prod.mk.injEq, true_and] at hb
    subst hb
    obtain ⟨f', h1, h2, h3, h4⟩ := store1 rel ok.2 rv dis
    refine hq _ f' h1 h2 (fun j hj => ?_)
    simp only [tgIx, List.mem_singleton] at hj
    subst hj
    refine ⟨h3, fun ho => h4 ?_⟩
    simp only [stC] at ho
    rw [List.getD_eq_getElem?_getD, cset_get] at ho
    simpa [ok.2] using ho
  | .tp ts p, t, c, v, d, B, σ, e, e', f, Q, ok, ht, rel, rv, dis, hb, hq => by
    have ht : t = .sh := by
      rcases ht with h | ⟨_, _, _, h⟩
      · exact h
      · cases h
    subst ht
    simp only [bnd, mb, mo] at hb
    cases d with
    | tuple ds =>
      simp only [tupOf] at hb
      obtain ⟨a, xs, rfl, hs, sA⟩ := rv.tupA
      obtain ⟨hl, hh⟩ := bnds_h ts (c := c) (f := f) (σ := σ) (Q := Q) (by simpa only [tgOk] using ok) rel sA hb
      refine ⟨a, xs, rfl, hs, hl, hh fun σ' f' r1 r2 r3 => hq σ' f' r1 r2 fun j hj => ⟨.inl (r3 j hj), fun _ => r3 j hj⟩⟩
    | _ => simp [tupOf] at hb
  | .at b, _, _, _, _, _, _, _, _, _, _, ok, _, _, _, _, _, _ => by simp [tgOk] at ok
theorem bnds_h : ∀ (ts : Tgs) {c : Cn} {vs : List V} {ds : List Dt} {σ : L2.St} {e e' : Ev} {f : Ft} {Q : L2.St → Hp → Prop}, tgsOk fs sc N c ts = true → Rel g c e σ H f → ShA g.K H vs ds →
    bnds TT ts ds e = .ok ((), e') → vs.length = ts.len ∧ ((∀ σ' f', Rel g (stCs ts c) e' σ' H f' → Sto (tgIxs ts) e e' σ σ' f f' → (∀ j ∈ tgIxs ts, f' j = []) → Q σ' H) → gRs g.K ts vs σ H Q)
  | .nil, c, vs, ds, σ, e, e', f, Q, ok, rel, sA, hb => by
    cases ds with
    | nil =>
      cases sA
      simp only [bnds, mp, R.ok.injEq, Prod.mk.injEq, true_and] at hb
      subst hb
      exact ⟨rfl, fun hq => ⟨rfl, hq σ f rel .refl (fun j hj => by cases hj)⟩⟩
    | cons d ds => simp [bnds] at hb
  | .cons t r, c, vs, ds, σ, e, e', f, Q, ok, rel, sA, hb => by
    simp only [tgsOk, Bool.and_eq_true] at ok
    cases ds with
    | nil => simp [bnds] at hb
    | cons d ds =>
      cases sA with
      | @cons v vs _ _ s1 s2 =>
        simp only [bnds, mb] at hb
        cases h1 : bnd TT t d e with
        | err => rw [h1] at hb; cases hb
        | exc x xs => rw [h1] at hb; cases hb
        | ok q =>
          obtain ⟨⟨⟩, e1⟩ := q
          rw [h1] at hb
          have hl : ds.length = r.len := bnds_len r hb
          refine ⟨by rw [List.length_cons, s2.length, hl]; rfl, fun hq => ⟨v, vs, rfl, ?_⟩⟩
          refine bnd_h t (c := c) (t := .sh) (B := []) ok.1 (.inl rfl) rel (.inr ⟨s1, rfl⟩) (fun a z => by cases z) h1 fun σ' f' r1 r2 r3 => ?_
          obtain ⟨_, hh⟩ := bnds_h r (c := stC .sh t c) (f := f') (σ := σ') (Q := Q) (by rw [tgsOk_len r (stC_len t)]; exact ok.2) r1 s2 hb
          refine hh fun σ2 f2 q1 q2 q3 => hq σ2 f2 q1 ((r2.sub fun j hj => List.mem_append_left _ hj).trans (q2.sub fun j hj => List.mem_append_right _ hj)) fun j hj => ?_
          by_cases hm : j ∈ tgIxs r
          · exact q3 j hm
          · rw [(q2.off j hm).1]
            rcases List.mem_append.mp hj with z | z
            · rcases (r3 j z).1 with y | y
              · exact y
              · exact y
            · exact absurd z hm
end
end
end VL


set_option Elab.async false
set_option linter.all false
set_option maxRecDepth 100000
set_option maxHeartbeats 1000000
/-! VL11: what loops go over; list comprehensions. -/
namespace VL
open PySem PySem.Spec PyProof.Rows L2

/-! ### what a loop goes over -/
def Gd (H' : Hp) (A : List Addr) : Hp → Prop := fun H'' => Im H' H'' ∧ ∀ a ∈ A, ∀ o, H' a = some o → H'' a = some o
def Yd (K : PySem.W.Frag) (T : Ty) (ds : List Dt) (A : List Addr) : Nat → Hp → V → Hp → Prop := fun i H x H' => Same H H' ∧ ∃ d B, ds[i]? = some d ∧ Rv K H' T x d B ∧ ∀ a ∈ B, a ∈ A
structure Src (g : G) (c : Cn) (S : List Nat) (T : Ty) (H H' : Hp) (f' : Ft) (J : L2.It) (ds : List Dt) (A : List Addr) : Prop where
  walk : Walk J ds.length (Gd H' A) (Yd g.K T ds A)
  foot : ∀ a ∈ A, ∃ xs, H' a = some (.lst xs)
  new : ∀ a ∈ A, H a = none ∨ ∃ i ∈ S, a ∈ f' i
  dis : ∀ i a, ownS (c.getD i .no) = true → i ∉ S → a ∈ A → a ∉ f' i
def finI (g : G) (c : Cn) (T : Ty) (S : List Nat) (σ : L2.St) (R : L2.It → Hp → Prop) : Fn_ (List Dt) := fun ds e' e H f => ∀ J H' f' A, Rel g c e' σ H' f' → Stp c e H f e' H' f' → Src g c S T H H' f' J ds A → R J H'
def tI (g : G) (c : Cn) (W : WX) (m : M (List Dt)) (T : Ty) (S : List Nat) : TI := fun σ H R => ∃ e f, Rel g c e σ H f ∧ at_ g c W (finI g c T S σ R) m e f σ H
theorem PI.imp {X : Cx} {tg e : Expr} {t t' : TI} (h : PI X tg e t) (i : ∀ σ H Q, t' σ H Q → t σ H Q) : PI X tg e t' := ⟨fun pins s σ H Q I q => h.run pins s σ H Q I (i σ H Q q)⟩
/-- a list or a tuple -/
def iSeq (K : PySem.W.Frag) (tl : TE) : TI := fun σ H R => tl σ H fun x H1 => ∃ a, x = .ref a ∧ (((∃ xs, SqL K H1 a xs) ∧ R (Itl K a) H1) ∨ ((∃ xs, SqT K H1 a xs) ∧ R (Itt K a) H1))
theorem pi_seq {X : Cx} {tg l : Expr} {tl : TE} (hl : PE X l tl) : PI X tg l (iSeq X.K tl) := by
  refine ⟨fun pins s σ H R I h => ?_⟩
  refine thn (hl.run pins s σ H _ I h) fun v s1 ⟨x, H1, I1, r1, q1⟩ => ?_
  obtain ⟨a, e, q⟩ := q1
  subst e
  cases r1
  rcases q with ⟨⟨xs, hq⟩, q⟩ | ⟨⟨xs, hq⟩, q⟩
  · obtain ⟨its, rv, p, hz⟩ := I1.list hq
    refine wpAny_pyIter_list p.isList ?_
    refine ⟨s1.heap.objs.size, [s1.heap.objs.size], _, _, H1, rfl, I1.kept (t' := s1.toks) fun b o e => Heap.get?_push_of_some _ e, turn_list a _, ⟨_, Heap.get?_push_size _ rfl, rfl, rfl⟩, fun b hb => ?_, q⟩
    have e : b = s1.heap.objs.size := by simpa using hb
    subst e
    exact I1.fpOk (Nat.le_refl _) (I1.hok.fresh (Nat.le_refl _))
  · obtain ⟨its, rv, p, hz⟩ := I1.tuple hq
    refine wpAny_pyIter_tuple (show s1.heap.IsTuple a its.toArray from p) ?_
    refine ⟨s1.heap.objs.size, [s1.heap.objs.size], _, _, H1, rfl, I1.kept (t' := s1.toks) fun b o e => Heap.get?_push_of_some _ e, turn_tuple a _, ⟨_, Heap.get?_push_size _ rfl, rfl, rfl⟩, fun b hb => ?_, q⟩
    have e : b = s1.heap.objs.size := by simpa using hb
    subst e
    exact I1.fpOk (Nat.le_refl _) (I1.hok.fresh (Nat.le_refl _))
section
variable {K : PySem.W.Frag} {H H' H'' : Hp} {t : Ty} {v : V} {d : Dt} {ds : List Dt} {A : List Addr}
theorem Rv.gd (h : Rv K H t v d A) (q : Gd H A H'') : Rv K H'' t v d A := h.mono q.1 q.2
theorem Rv.lstG (h : Rv K H t v (.list ds) A) : ∃ a xs, v = .ref a ∧ xs.length = ds.length ∧ ∀ H'', Gd H A H'' → SqL K H'' a xs ∧ ∀ (i : Nat) d, ds[i]? = some d → ∃ w C, xs[i]? = some w ∧ Rv K H'' (itTy t) w d C ∧ ∀ c ∈ C, c ∈ A := by
  have fin : ∀ {xs : List V} {H'' : Hp}, ShA K H'' xs ds → ∀ (i : Nat) d, ds[i]? = some d → ∃ w C, xs[i]? = some w ∧ Rv K H'' (itTy t) w d C ∧ ∀ c ∈ C, c ∈ A := fun s i d hd => by
    obtain ⟨w, h1, h2⟩ := s.get hd
    exact ⟨w, [], h1, .inr ⟨h2, rfl⟩, fun c z => by cases z⟩
  rcases h with h | h
  · cases h with
    | sh s => cases s with | lst e s => exact ⟨_, _, rfl, s.length, fun H'' q => ⟨(e.mono q.1).sq, fin (s.mono q.1)⟩⟩
    | @ls u a xs _ B e r n =>
      refine ⟨_, _, rfl, r.length, fun H'' q => ⟨.inl (.inl (q.2 _ List.mem_cons_self _ e)), fun i d hd => ?_⟩⟩
      obtain ⟨w, C, h1, h2, h3⟩ := (r.mono q.1 fun a ha => q.2 a (List.mem_cons_of_mem _ ha)).get hd
      exact ⟨w, C, h1, .inl h2, fun c z => List.mem_cons_of_mem _ (h3 c z)⟩
    | ks e s => exact ⟨_, _, rfl, s.length, fun H'' q => ⟨(e.mono q.1).sq, fin (s.mono q.1)⟩⟩
    | kl e s => exact ⟨_, _, rfl, s.length, fun H'' q => ⟨.inl (.inl (q.2 _ List.mem_cons_self _ e)), fin (s.mono q.1)⟩⟩
  · cases h.1 with | lst e s => exact ⟨_, _, rfl, s.length, fun H'' q => ⟨(e.mono q.1).sq, fin (s.mono q.1)⟩⟩
theorem Rv.tupG (h : Rv K H t v (.tuple ds) A) : ∃ a xs, v = .ref a ∧ xs.length = ds.length ∧ ∀ H'', Gd H A H'' → SqT K H'' a xs ∧ ShA K H'' xs ds := by
  have s : Sh K H v (.tuple ds) := by
    rcases h with h | h
    · cases h with | sh s => exact s
    · exact h.1
  cases s with | tup e s => exact ⟨_, _, rfl, s.length, fun H'' q => ⟨(FzT.mono q.1 e).sq, s.mono q.1⟩⟩
theorem Gd.refl : Gd H A H := ⟨Im.refl _, fun _ _ _ h => h⟩
end
section
variable {g : G} {c : Cn} {W : WX} {N : List Str} {sc fs : Scope} {lv : Nat} {X : Cx} {T T1 : Ty} {S S1 : List Nat} {m1 : M Dt} {l1 : M (List Dt)} {p q : Pos} {a b tg : Expr} {es : List Expr}
variable {σ : L2.St} {e e1 e2 : Ev} {H H1 H2 H3 : Hp} {f f1 f2 : Ft} {v : V} {d : Dt} {A : List Addr}
theorem Src.of {J : L2.It} {ds : List Dt} (res : Res g c S T H H1 f1 v d A) (w : Walk J ds.length (Gd H1 A) (Yd g.K T1 ds A)) : Src g c S T1 H H1 f1 J ds A := ⟨w, res.rv.foot, res.new, res.dis⟩
theorem ok_iof (K : CxV g N sc lv W X) (ha : PE X a (tV g c W m1 T1 S1)) : PI X tg a (tI g c W (mb m1 fun x => mo (seqOf x)) (itTy T1) S1) := by
  refine PI.imp (pi_seq ha) fun σ H R h => ?_
  obtain ⟨e, f, rel, h⟩ := h
  refine ⟨e, f, rel, at_mono (at_abs h) fun d1 e1 h1 v1 H1 f1 A1 rel1 st1 res1 => ?_⟩
  obtain ⟨ds, hd, hf⟩ := at_mo h1
  have hf : finI g c (itTy T1) S1 σ R ds e1 e H f := hf
  rw [K.hK]
  unfold seqOf at hd
  split at hd
  · cases hd
    obtain ⟨a, xs, rfl, hl, hg⟩ := res1.rv.lstG
    have wk : Walk (Itl g.K a) ds.length (Gd H1 A1) (Yd g.K (itTy T1) ds A1) := by
      rw [← hl]
      refine walk_list.mono (fun H2 q => (hg H2 q).1) fun i H2 x H3 hi q y => ?_
      obtain ⟨e3, hx⟩ := y
      subst e3
      refine ⟨Same.refl _, ?_⟩
      rw [hl] at hi
      obtain ⟨w, C, z, h2, h3⟩ := (hg _ q).2 i ds[i] (by simp [hi])
      rw [hx] at z; cases z
      exact ⟨ds[i], C, by simp [hi], h2, h3⟩
    exact ⟨a, rfl, .inl ⟨⟨xs, (hg H1 Gd.refl).1⟩, hf _ H1 f1 A1 rel1 st1 (.of res1 wk)⟩⟩
  · cases hd
    obtain ⟨a, xs, rfl, hl, hg⟩ := res1.rv.tupG
    have wk : Walk (Itt g.K a) ds.length (Gd H1 A1) (Yd g.K (itTy T1) ds A1) := by
      rw [← hl]
      refine walk_tup.mono (fun H2 q => (hg H2 q).1) fun i H2 x H3 hi q y => ?_
      obtain ⟨e3, hx⟩ := y
      subst e3
      refine ⟨Same.refl _, ?_⟩
      rw [hl] at hi
      obtain ⟨w, h1, h2⟩ := (hg _ q).2.get (i := i) (d := ds[i]) (by simp [hi])
      rw [hx] at h1; cases h1
      exact ⟨ds[i], [], by simp [hi], .inr ⟨h2, rfl⟩, fun a z => by cases z⟩
    exact ⟨a, rfl, .inr ⟨⟨xs, (hg H1 Gd.refl).1⟩, hf _ H1 f1 A1 rel1 st1 (.of res1 wk)⟩⟩
  · cases hd
theorem rangeD_get {lo : Int} {n i : Nat} (h : i < n) : (rangeD lo n)[i]? = some (.int (lo + (i : Int))) := by
  unfold rangeD; simp [h]
theorem rangeD_len {lo : Int} {n : Nat} : (rangeD lo n).length = n := by unfold rangeD; simp
theorem walk_rg {lo : Int} {n : Nat} : Walk (Itr lo n) (rangeD lo n).length (Gd H1 []) (Yd g.K .sh (rangeD lo n) []) := by
  rw [rangeD_len]
  refine walk_range.mono (fun _ _ => trivial) fun i H2 x H3 hi q y => ?_
  obtain ⟨e3, hx⟩ := y
  subst e3; subst hx
  exact ⟨Same.refl _, _, [], rangeD_get hi, .inr ⟨.int _, rfl⟩, fun a z => by cases z⟩
theorem src_rg {lo : Int} {n : Nat} : Src g c [] .sh H H1 f1 (Itr lo n) (rangeD lo n) [] := ⟨walk_rg, (fun _ z => by cases z), (fun _ z => by cases z), fun _ _ _ _ z => by cases z⟩
theorem RepA.sh1 {K : PySem.W.Frag} {vs : List V} {d : Dt} {A : List Addr} (r : RepA K H .sh vs [d] A) : ∃ v, vs = [v] ∧ Sh K H v d := by
  obtain ⟨s, _⟩ := r.sh
  cases s with | cons h t => cases t; exact ⟨_, rfl, h⟩
theorem RepA.sh2 {K : PySem.W.Frag} {vs : List V} {d1 d2 : Dt} {A : List Addr} (r : RepA K H .sh vs [d1, d2] A) : ∃ v w, vs = [v, w] ∧ Sh K H v d1 ∧ Sh K H w d2 := by
  obtain ⟨s, _⟩ := r.sh
  cases s with | cons h t => cases t with | cons h2 t => cases t; exact ⟨_, _, rfl, h, h2⟩
theorem ok_irg1 (K : CxV g N sc lv W X) (ha : PA X [a] (tL g c W l1 .sh)) (hg : glB sc (Str.ofString "range") = true) (hs : starEach [a] X.env = [(false, eval a X.env)])
    (h1 : ∀ e ds e', l1 e = .ok (ds, e') → ds.length = 1) : PI X tg (.Call (.Name (Str.ofString "range") q) [a] [] p) (tI g c W (mb l1 fun xs => mo (rangeOf xs)) .sh []) := by
  refine PI.imp (pi_range1 (gl_of K hg) (K.bt _ (by simp)) ha hs) fun σ H R h => ?_
  obtain ⟨e, f, rel, h⟩ := h
  refine ⟨e, f, rel, ?_⟩
  have h0 := at_abs h
  unfold at_ at h0 ⊢
  cases hq : l1 e with
  | err => rw [hq] at h0; exact h0
  | exc x xs => rw [hq] at h0; exact h0
  | ok r =>
    obtain ⟨ds, e1⟩ := r
    rw [hq] at h0
    intro vs H1 f1 A rel1 st1 r1 n1 x1
    have hl := h1 e ds e1 hq
    match ds, hl with
    | [d1], _ =>
      obtain ⟨v1, rfl, s1⟩ := r1.sh1
      have h0 : at_ g c W (fun y e2 _ _ _ => finI g c .sh [] σ R y e2 e H f) (mo (rangeOf [d1])) e1 f σ H := h0
      obtain ⟨ds, hd, hf0⟩ := at_mo h0
      have hf : finI g c .sh [] σ R ds e1 e H f := hf0
      clear hf0
      unfold rangeOf at hd
      split at hd
      · rename_i n heq
        cases heq
        split at hd
        · cases hd
          rename_i hr
          cases s1
          unfold inR at hr
          simp only [Bool.and_eq_true, decide_eq_true_eq] at hr
          exact ⟨n, rfl, by omega, by omega, hf _ H1 f1 [] rel1 st1 src_rg⟩
        · cases hd
      · rename_i heq; cases heq
      · cases hd
theorem ok_irg2 (K : CxV g N sc lv W X) (ha : PA X [a, b] (tL g c W l1 .sh)) (hg : glB sc (Str.ofString "range") = true) (hs : starEach [a, b] X.env = [(false, eval a X.env), (false, eval b X.env)]) (hs2 : starEach [b] X.env = [(false, eval b X.env)])
    (h1 : ∀ e ds e', l1 e = .ok (ds, e') → ds.length = 2) : PI X tg (.Call (.Name (Str.ofString "range") q) [a, b] [] p) (tI g c W (mb l1 fun xs => mo (rangeOf xs)) .sh []) := by
  refine PI.imp (pi_range2 (gl_of K hg) (K.bt _ (by simp)) ha hs hs2) fun σ H R h => ?_
  obtain ⟨e, f, rel, h⟩ := h
  refine ⟨e, f, rel, ?_⟩
  have h0 := at_abs h
  unfold at_ at h0 ⊢
  cases hq : l1 e with
  | err => rw [hq] at h0; exact h0
  | exc x xs => rw [hq] at h0; exact h0
  | ok r =>
    obtain ⟨ds, e1⟩ := r
    rw [hq] at h0
    intro vs H1 f1 A rel1 st1 r1 n1 x1
    have hl := h1 e ds e1 hq
    match ds, hl with
    | [d1, d2], _ =>
      obtain ⟨v1, v2, rfl, s1, s2⟩ := r1.sh2
      have h0 : at_ g c W (fun y e2 _ _ _ => finI g c .sh [] σ R y e2 e H f) (mo (rangeOf [d1, d2])) e1 f σ H := h0
      obtain ⟨ds, hd, hf0⟩ := at_mo h0
      have hf : finI g c .sh [] σ R ds e1 e H f := hf0
      clear hf0
      unfold rangeOf at hd
      split at hd
      · rename_i heq; cases heq
      · rename_i m n heq
        cases heq
        split at hd
        · cases hd
          rename_i hr
          cases s1; cases s2
          unfold inR at hr
          simp only [Bool.and_eq_true, decide_eq_true_eq] at hr
          exact ⟨m, n, rfl, ⟨by omega, by omega, by omega, by omega⟩, hf _ H1 f1 [] rel1 st1 src_rg⟩
        · cases hd
      · cases hd
end
end VL


set_option Elab.async false
set_option linter.all false
set_option maxRecDepth 100000
set_option maxHeartbeats 2000000
/-! EN1: enumerate over a tuple or a list. -/
namespace VL
open PySem PySem.Spec PyProof.Rows L2
theorem enum_new1 {v : Value} {o : Obj} {H : Heap → Prop} (B : Begins v o H) :
    Meets (Builtin.«enumerate.__new__» ⟨[.type "enumerate", v], []⟩) (fun _ R s => H s.heap ∧
      R (.ok (.ret (.ref (s.heap.push o).objs.size))) { s with heap := (s.heap.push o).push { cls := .type "enumerate", data := .fields #[.none, .bool false, .ref s.heap.objs.size, rawInt 0, .none, .none] } }) :=
  .of_wp fun prog w A R s h => by
    obtain ⟨hp, g, d, tk, os⟩ := s; obtain ⟨h1, h⟩ := h
    have hsub := sub_enumerate
    have q1 : ∀ {A' : Around} {E : Value → Shared → Prop} {Q : Value → Shared → Prop}, Q (.ref hp.objs.size) ⟨hp.push o, g, d, tk, os⟩ → wpAny (model prog w) A' (pyIter v) Q E ⟨hp, g, d, tk, os⟩ :=
      fun q => B.iter prog w _ _ ⟨hp, g, d, tk, os⟩ _ h1 q
    wp_walk using q1
    refine wpAny_stack_any fun st => wpAny_pure ?_
    split
    · rename_i c _ _ _ _ _
      cases (c == Value.type "enumerate")
      · wp_walk using q1
        exact ⟨_, rfl, h⟩
      · wp_walk using q1
        exact ⟨_, rfl, h⟩
    · wp_walk using q1
      exact ⟨_, rfl, h⟩
theorem call_enum1 {prog : Program} {w : World} {A : Around} {E : Value → Shared → Prop} {s : Shared} {v : Value} {o : Obj} {H : Heap → Prop} {Q : Value → Shared → Prop} (B : Begins v o H) (h1 : H s.heap)
    (h : ∀ h', IsEnum h' (s.heap.objs.size + 1) s.heap.objs.size 0 .none → h'.get? s.heap.objs.size = some o → h'.objs.size = s.heap.objs.size + 2 →
      (∀ b o, s.heap.get? b = some o → h'.get? b = some o) → Q (.ref (s.heap.objs.size + 1)) { s with heap := h' }) :
    wpAny (model prog w) A (call (.type "enumerate") [v]) Q E s := by
  refine callType_new F.called_enumerate (by decide) (F.typeCall_enumerate_1 _) (F.newCall_enumerate_1 _) (fun obj => F.args_object_init_2 obj _) F.entry_enumerate_new
    (enum_new1 B) ⟨h1, ?_⟩
  have hz : (s.heap.push o).objs.size = s.heap.objs.size + 1 := Heap.size_push ..
  show _ ∧ _
  rw [hz]
  have he : IsEnum ((s.heap.push o).push { cls := .type "enumerate", data := .fields #[.none, .bool false, .ref s.heap.objs.size, rawInt 0, .none, .none] }) (s.heap.objs.size + 1) s.heap.objs.size 0 .none := by
    have := Heap.get?_push_size (s.heap.push o) (o := { cls := .type "enumerate", data := .fields #[.none, .bool false, .ref s.heap.objs.size, rawInt 0, .none, .none] }) rfl
    rw [hz] at this; exact this
  refine ⟨⟨_, he, rfl⟩, h _ he (Heap.get?_push_of_some _ (Heap.get?_push_size _ B.free)) (by rw [Heap.size_push, hz]) fun b o x => Heap.get?_push_of_some _ (Heap.get?_push_of_some _ x)⟩
theorem enumT_end {prog : Program} {w : World} {A : Around} {E : Value → Shared → Prop} {s : Shared} {e it t : Addr} {i : Nat} {items : Array Value} {old : Value} {Q : Option Value → Shared → Prop} (hh : A.handled = none)
    (he : IsEnum s.heap e it i old) (hit : s.heap.IsTupleIter it t i) (ht : s.heap.IsTuple t items) (hx : items[i]? = none)
    (hQ : ∀ h', Heap.ExtBut it s.heap h' → Q none { s with heap := h' }) : wpAny (model prog w) A (pyNext (.ref e)) Q E s := by
  have hT : s.TypeIs (.ref e) "enumerate" := ⟨_, he, rfl⟩
  unfold pyNext
  refine wpAny_bind (wpAny_attempt (wpAny_callSpecial?_slot (name := Str.ofString "__next__") hT F.slot_enumerate_next
    (wpAny_call_entry F.slot_enumerate_next hT F.entry_enumerate_next ?_ (F.args_enumerate_next_1 _))))
  show wpAny _ _ (field (.ref e) 2 >>= _) _ _ _
  refine wpAny_bind (wpAny_field he rfl (x := .ref it) rfl ?_)
  refine wpAny_bind (wpAny_nextOf_tuple_end hh hit ht hx fun h' x he' hx' => ?_)
  obtain ⟨o, ho, hc⟩ := hx'
  refine wpAny_bind (wpAny_isInstance (T := "StopIteration") (b := true) ⟨o, ho, hc⟩ isSubtype_stop ?_)
  exact wpAny_pure (hQ _ he')
/-- the tuple at a, each item in a new pair -/
def IteT (K : PySem.W.Frag) (a : Addr) : L2.It :=
  ⟨fun i H => ∃ (xs : List V) (x : V), SqT K H a xs ∧ xs[i]? = some x, fun i H v H' => ∃ T x, v = .ref T ∧ H T = none ∧ H' = upd H T (.tup [.int (i : Nat), x]) ∧ ∀ xs, SqT K H a xs → xs[i]? = some x, fun i H => ∃ xs : List V, SqT K H a xs ∧ xs.length ≤ i⟩
theorem turn_enumT {P : Program} {w : World} {K : PySem.W.Frag} {elts : List Expr} {kk : Nat} {tpos : Pos} (a e it : Addr) :
    Turn P w K (.Tuple elts kk tpos) (IteT K a) [e, it] e (fun i h => (∃ old, IsEnum h e it ((i : Nat) : Int) old) ∧ h.IsTupleIter it a i ∧ e ≠ it ∧ a ≠ it ∧ a ≠ e) where
  mem := by simp
  obj := fun i h st b hb => by
    obtain ⟨⟨old, he⟩, ⟨o, ho, hc, hd⟩, _⟩ := st
    have e' : b = e ∨ b = it := by simpa using hb
    rcases e' with z | z
    · rw [z]; exact ⟨_, he, fun v q => nomatch q⟩
    · rw [z]; exact ⟨o, ho, fun v q => by rw [hd] at q; cases q⟩
  keep := fun i h h' st k => let ⟨⟨old, he⟩, hi, hne⟩ := st; ⟨⟨old, k e (by simp) _ he⟩, hi.at fun o q => k it (by simp) o q, hne⟩
  item := by
    intro X hP hw hK hc i pins s σ H E I hf st hg
    subst hP hw hK
    obtain ⟨⟨old, he⟩, hit, hne, hai, hae⟩ := st
    obtain ⟨xs, x, hq, hx⟩ := hg
    obtain ⟨its, rv, p, hz⟩ := I.tuple hq
    obtain ⟨u, hu, ru⟩ := rv.get hx
    have hel : e < s.heap.objs.size := Heap.lt_size he
    have hil : it < s.heap.objs.size := by obtain ⟨_, q, _⟩ := hit; exact Heap.lt_size q
    have hil2 : i < its.toArray.size := by
      have z : its[i]? = some u := hu
      rw [List.size_toArray]
      exact (List.getElem?_eq_some_iff.mp z).1
    have D := Draws.tuple (prog := X.prog) (w := X.w) (A := X.A.in1) (show X.A.in1.handled = none from I.ok.hd hc) it a hai its.toArray
    refine wpAny_pyNext_enum_itemD D he ⟨hit, show s.heap.IsTuple a its.toArray from p⟩ hil2 hne (by simp [hne, Ne.symm hae]) fun x' h' tk hx' ho hst' hT hsz hk => ?_
    have hxu : x' = u := by
      have z : its.toArray[i]? = some u := by simpa using hu
      rw [z] at hx'; exact (Option.some.inj hx').symm
    subst hxu
    refine ⟨_, rfl, wpAny_letOwnedTupleGo_enum (s := { s with heap := h', toks := tk + 1 }) ho fun h'' he' sb => ?_⟩
    have hT2 : h''.get? s.heap.objs.size = some { cls := .type "tuple", data := .seq #[.int i tk, x'] } := (sb.2 _ (Nat.ne_of_gt hel)).trans hT
    have new : ObjOk X.prog X.w (upd H s.heap.objs.size (.tup [.int (i : Nat), x])) h'' s.heap.objs.size (.tup [.int (i : Nat), x]) :=
      ⟨by show 2 ≤ sizeLine; decide, [.int i tk, x'], .cons ⟨_, rfl⟩ (.cons ru .nil), ⟨_, hT2, rfl, _, rfl⟩⟩
    have I1 : Inv X pins σ (upd H s.heap.objs.size (.tup [.int (i : Nat), x])) { s with heap := h'', toks := tk + 1 } :=
      I.turnedNew (ch := [e, it]) (fun b ob hb q => (sb.2 b (fun z => hb (by simp [z]))).trans (hk b ob (fun z => hb (by simp [z])) (fun z => hb (by simp [z])) q)) hf (Nat.le_refl _) new
    refine ⟨.ref s.heap.objs.size, _, I1, rfl, ⟨_, x, rfl, I.hok.fresh (Nat.le_refl _), rfl, fun ys hy => by rw [I.tuple_inj hy hq]; exact hx⟩, ⟨⟨x', ?_⟩, hst'.1.at fun o q => (sb.2 it (Ne.symm hne)).trans q, hne, hai, hae⟩, fun b hb => ?_⟩
    · have e1 : ((i + 1 : Nat) : Int) = (i : Int) + 1 := by omega
      rw [e1]; exact he'
    · have hb' : b < s.heap.objs.size := by
        have e' : b = e ∨ b = it := by simpa using hb
        rcases e' with z | z
        · rw [z]; exact hel
        · rw [z]; exact hil
      rw [upd_ne (Nat.ne_of_lt hb')]
      exact (hf b hb).1
  done := by
    intro X hP hw hK hc i pins s σ H E I hf st hg
    subst hP hw hK
    obtain ⟨⟨old, he⟩, hit, hne, hai, hae⟩ := st
    obtain ⟨xs, hq, hx⟩ := hg
    obtain ⟨its, rv, p, hz⟩ := I.tuple hq
    have hl := rv.length
    obtain ⟨f0, f1, f2, f3, f4, f5⟩ := hf it (by simp)
    exact enumT_end (I.ok.hd hc) he hit (show s.heap.IsTuple a its.toArray from p) (by simp; omega) fun h' eb => ⟨rfl, I.turned (t' := s.toks) (fun b o hb q => eb b o hb q) f0 f1 f3 f4 f5⟩
  self := fun A i s Q E st h => let ⟨⟨_, he⟩, _⟩ := st; wpAny_pyIter_enum he h
/-- enumerate(a list or a tuple) -/
def iEnumA (K : PySem.W.Frag) (ta : TA) : TI := fun σ H R => ta σ H fun vs H1 => ∃ a, vs = [.ref a] ∧ ((∃ xs, SqL K H1 a xs ∧ R (Ite K a) H1) ∨ ∃ xs, SqT K H1 a xs ∧ R (IteT K a) H1)
theorem pi_enumA {X : Cx} {e : Expr} {ta : TA} {p pos tpos : Pos} {elts : List Expr} {kk : Nat} (hg : Gl X "enumerate") (hm : X.mg "enumerate" = none) (ha : PA X [e] ta) (hs : starEach [e] X.env = [(false, eval e X.env)]) :
    PI X (.Tuple elts kk tpos) (.Call (.Name "enumerate" p) [e] [] pos) (iEnumA X.K ta) := by
  refine ⟨fun pins s σ H R I h => ?_⟩
  refine Call_ (ld_blt I hg hm boot_enumerate (PyProof.Rows.callWith_type1 (thn (ha.run pos pins s σ H _ I h) fun us s1 ⟨vs, H1, I1, r1, q1⟩ => ?_) hs rfl))
  obtain ⟨a, ex, q⟩ := q1
  subst ex
  have fin : ∀ b, b ∈ [s1.heap.objs.size + 1, s1.heap.objs.size] → FpOk X pins H1 b := fun b hb => by
    have e' : b = s1.heap.objs.size + 1 ∨ b = s1.heap.objs.size := by simpa using hb
    have hle : s1.heap.objs.size ≤ b := by
      rcases e' with z | z
      · rw [z]; exact Nat.le_add_right _ _
      · rw [z]; exact Nat.le_refl _
    exact I1.fpOk hle (I1.hok.fresh hle)
  cases r1 with
  | cons r rr =>
    cases rr
    cases r
    rcases q with ⟨xs, hq, q⟩ | ⟨xs, hq, q⟩
    · obtain ⟨its, rv, p', hz⟩ := I1.list hq
      refine call_enumerate_list p'.isList fun h' he hit hsz hk => wpAny_pyIter_enum he ?_
      have I2 : Inv X pins σ H1 { s1 with heap := h' } := I1.kept (t' := s1.toks) hk
      exact ⟨s1.heap.objs.size + 1, [s1.heap.objs.size + 1, s1.heap.objs.size], _, _, H1, rfl, I2, turn_enum a (s1.heap.objs.size + 1) s1.heap.objs.size, ⟨⟨.none, he⟩, hit, Nat.succ_ne_self _⟩, fin, q⟩
    · obtain ⟨its, rv, p', hz⟩ := I1.tuple hq
      have pt : s1.heap.IsTuple a its.toArray := p'
      have hal : a < s1.heap.objs.size := by obtain ⟨o, ho, _⟩ := id pt; exact Heap.lt_size ho
      refine call_enum1 (begins_tuple a its.toArray) pt fun h' he hit hsz hk => wpAny_pyIter_enum he ?_
      have I2 : Inv X pins σ H1 { s1 with heap := h' } := I1.kept (t' := s1.toks) hk
      exact ⟨s1.heap.objs.size + 1, [s1.heap.objs.size + 1, s1.heap.objs.size], _, _, H1, rfl, I2, turn_enumT a (s1.heap.objs.size + 1) s1.heap.objs.size, ⟨⟨.none, he⟩, ⟨_, hit, rfl, rfl⟩, Nat.succ_ne_self _, Nat.ne_of_lt hal, Nat.ne_of_lt (Nat.lt_succ_of_lt hal)⟩, fin, q⟩

section
variable {g : G} {c : Cn} {W : WX} {N : List Str} {sc fs : Scope} {lv : Nat} {X : Cx} {T1 T2 : Ty} {S1 S2 : List Nat} {m1 m2 : M Dt} {p q tp : Pos} {a b : Expr} {ts : List Expr} {kk : Nat}
variable {σ : L2.St} {e e1 e2 : Ev} {H H1 H2 H3 : Hp} {f f1 f2 : Ft} {v : V} {d : Dt} {A : List Addr}
theorem enum_get {xs : List Dt} {i : Nat} {x : Dt} (h : xs[i]? = some x) : (xs.mapIdx fun i x => PyData.tuple [.int (i : Nat), x])[i]? = some (.tuple [.int (i : Nat), x]) := by
  rw [List.getElem?_mapIdx, h]; rfl
theorem pair_sh {K : PySem.W.Frag} {H : Hp} {T : Addr} {x y : V} {d1 d2 : Dt} (hT : H T = none) (h1 : Sh K H x d1) (h2 : Sh K H y d2) : Sh K (upd H T (.tup [x, y])) (.ref T) (.tuple [d1, d2]) := by
  have im : Im H (upd H T (.tup [x, y])) := Im.of (same_upd hT)
  exact .tup upd_same (.cons (h1.mono im) (.cons (h2.mono im) .nil))
theorem rv_sh {K : PySem.W.Frag} {H : Hp} {t : Ty} {v : V} {d : Dt} {A : List Addr} (h : Rv K H t v d A) (ht : t = .sh) : Sh K H v d := by
  subst ht
  rcases h with h | h
  · cases h with | sh s => exact s
  · exact h.1
theorem ok_ienu (K : CxV g N sc lv W X) (ha : PE X a (tV g c W m1 T1 S1)) (ht : itTy T1 = .sh) (hg : glB sc (Str.ofString "enumerate") = true) (hs : starEach [a] X.env = (false, eval a X.env) :: starEach [] X.env) :
    PI X (.Tuple ts kk tp) (.Call (.Name (Str.ofString "enumerate") q) [a] [] p) (tI g c W (mb m1 fun x => mo (enumD x)) .sh S1) := by
  refine PI.imp (pi_enumA (gl_of K hg) (K.bt _ (by simp)) (pa_cons ha pa_nil hs) hs) fun σ H R h => ?_
  obtain ⟨e, f, rel, h⟩ := h
  refine ⟨e, f, rel, at_mono (at_abs h) fun d1 e1 h1 v1 H1 f1 A1 rel1 st1 res1 => ?_⟩
  obtain ⟨ds, hd, hf⟩ := at_mo h1
  have hf : finI g c .sh S1 σ R ds e1 e H f := hf
  rw [K.hK]
  unfold enumD seqOf at hd
  cases d1 with
  | list xs0 =>
    simp only [Option.map_some, Option.some.injEq] at hd
    subst hd
    obtain ⟨a, xs, rfl, hl, hg⟩ := res1.rv.lstG
    have wk : Walk (Ite g.K a) (xs0.mapIdx fun i x => PyData.tuple [.int (i : Nat), x]).length (Gd H1 A1) (Yd g.K .sh (xs0.mapIdx fun i x => PyData.tuple [.int (i : Nat), x]) A1) := by
      rw [List.length_mapIdx, ← hl]
      refine walk_enum.mono (fun H2 q => (hg H2 q).1) fun i H2 x H3 hi q y => ?_
      obtain ⟨T, x0, y0, rfl, hT, rfl, hx, hy⟩ := y
      rw [hl] at hi
      obtain ⟨w, C, z, h2, h3⟩ := (hg _ q).2 i xs0[i] (by simp [hi])
      have hy : xs[i]? = some y0 := hy
      rw [hy] at z; cases z
      have hx : some (V.int (i : Nat)) = some x0 := hx
      cases hx
      exact ⟨same_upd hT, _, [], enum_get (by simp [hi]), .inr ⟨pair_sh hT (.int _) (rv_sh h2 ht), rfl⟩, fun a z => by cases z⟩
    exact ⟨a, rfl, .inl ⟨xs, (hg H1 Gd.refl).1, hf _ H1 f1 A1 rel1 st1 (.of res1 wk)⟩⟩
  | tuple xs0 =>
    simp only [Option.map_some, Option.some.injEq] at hd
    subst hd
    obtain ⟨a, xs, rfl, hl, hg⟩ := res1.rv.tupG
    have wk : Walk (IteT g.K a) (xs0.mapIdx fun i x => PyData.tuple [.int (i : Nat), x]).length (Gd H1 A1) (Yd g.K .sh (xs0.mapIdx fun i x => PyData.tuple [.int (i : Nat), x]) A1) := by
      rw [List.length_mapIdx, ← hl]
      refine ⟨fun i H2 hi q => ⟨xs, xs[i], (hg _ q).1, by simp [hi]⟩, fun H2 q => ⟨xs, (hg _ q).1, Nat.le_refl _⟩, fun i H2 x H3 hi q y => ?_⟩
      obtain ⟨T, y0, rfl, hT, rfl, hy⟩ := y
      rw [hl] at hi
      obtain ⟨w, z, h2⟩ := (hg _ q).2.get (i := i) (d := xs0[i]) (by simp [hi])
      rw [hy xs (hg _ q).1] at z; cases z
      exact ⟨same_upd hT, _, [], enum_get (by simp [hi]), .inr ⟨pair_sh hT (.int _) h2, rfl⟩, fun a z => by cases z⟩
    exact ⟨a, rfl, .inr ⟨xs, (hg H1 Gd.refl).1, hf _ H1 f1 A1 rel1 st1 (.of res1 wk)⟩⟩
  | _ => simp at hd
end
end VL


set_option Elab.async false
set_option linter.all false
set_option maxRecDepth 100000
set_option maxHeartbeats 2000000
/-! VL11b: zip of two lists or of two tuples. -/
namespace VL
open PySem PySem.Spec PyProof.Rows L2
section
variable {g : G} {c : Cn} {W : WX} {N : List Str} {sc fs : Scope} {lv : Nat} {X : Cx} {T1 T2 : Ty} {S1 S2 : List Nat} {m1 m2 : M Dt} {p q tp : Pos} {a b : Expr} {ts : List Expr} {kk : Nat}
variable {σ : L2.St} {e e1 e2 : Ev} {H H1 H2 H3 : Hp} {f f1 f2 : Ft} {v : V} {d : Dt} {A : List Addr}
theorem Gd.left {A B : List Addr} (h : Gd H (A ++ B) H1) : Gd H A H1 := ⟨h.1, fun a ha => h.2 a (List.mem_append_left _ ha)⟩
theorem Gd.right {A B : List Addr} (h : Gd H (A ++ B) H1) : Gd H B H1 := ⟨h.1, fun a ha => h.2 a (List.mem_append_right _ ha)⟩
theorem zip_get {xs ys : List Dt} {i : Nat} {x y : Dt} (h1 : xs[i]? = some x) (h2 : ys[i]? = some y) : (List.zipWith (fun x y => PyData.tuple [x, y]) xs ys)[i]? = some (.tuple [x, y]) := by
  rw [List.getElem?_zipWith, h1, h2]
theorem ok_izip (K : CxV g N sc lv W X) (ha : PE X a (tV g c W m1 T1 S1)) (hb : PE X b (tV g (lend c S1) W m2 T2 S2)) (ht1 : itTy T1 = .sh) (ht2 : itTy T2 = .sh) (hg : glB sc (Str.ofString "zip") = true) (hs1 : ∀ es, starEach (a :: es) X.env = (false, eval a X.env) :: starEach es X.env) (hs2 : ∀ es, starEach (b :: es) X.env = (false, eval b X.env) :: starEach es X.env) :
    PI X (.Tuple ts kk tp) (.Call (.Name (Str.ofString "zip") q) [a, b] [] p) (tI g c W (mb m1 fun x => mb m2 fun y => mo (zipD x y)) .sh (S1 ++ S2)) := by
  refine PI.imp (RZ.pi_zipA (gl_of K hg) (K.bt _ (by simp)) (pa_cons ha (pa_cons hb pa_nil (hs2 _)) (hs1 _)) (hs1 _) (by rw [hs2]; rfl)) fun σ H R h => ?_
  obtain ⟨e, f, rel, h⟩ := h
  refine ⟨e, f, rel, at_mono (at_abs h) fun d1 e1 h1 v1 H1 f1 A1 rel1 st1 res1 => ?_⟩
  refine ⟨e1, f1, rel1.lend S1, at_mono (at_lend (at_abs (at_move h1 st1)) S1) fun d2 e2 h2 v2 H2 f2 A2 rel2 st2 res2 => ?_⟩
  have rel2' := rel2.back rel1 st2
  have st2' := st2.lent rel1
  obtain ⟨ds, hd, hf⟩ := at_mo h2
  have hf : finI g c .sh (S1 ++ S2) σ R ds e2 e H f := hf
  have r1 := res1.later rel1 st2
  have r2 := res2.unlend rel1 rel2' st2 st1.old
  rw [K.hK]
  have src : ∀ {J : L2.It} {ds : List Dt}, Walk J ds.length (Gd H2 (A1 ++ A2)) (Yd g.K .sh ds (A1 ++ A2)) → Src g c (S1 ++ S2) .sh H H2 f2 J ds (A1 ++ A2) := fun w => by
    refine ⟨w, fun a ha => ?_, fun a ha => ?_, fun i a ho hi ha => ?_⟩
    · rcases List.mem_append.mp ha with z | z
      · exact r1.rv.foot a z
      · exact r2.rv.foot a z
    · rcases List.mem_append.mp ha with z | z
      · exact (r1.new a z).imp id fun ⟨i, hi, y⟩ => ⟨i, List.mem_append_left _ hi, y⟩
      · exact (r2.new a z).imp id fun ⟨i, hi, y⟩ => ⟨i, List.mem_append_right _ hi, y⟩
    · rcases List.mem_append.mp ha with z | z
      · exact r1.dis i a ho (fun y => hi (List.mem_append_left _ y)) z
      · exact r2.dis i a ho (fun y => hi (List.mem_append_right _ y)) z
  cases d1 with
  | list xs0 =>
    cases d2 with
    | list ys0 =>
      simp only [zipD, Option.some.injEq] at hd
      subst hd
      obtain ⟨a, xs, rfl, hl, hg1⟩ := r1.rv.lstG
      obtain ⟨b, ys, rfl, hm, hg2⟩ := r2.rv.lstG
      have wk : Walk (Itz g.K a b) (List.zipWith (fun x y => PyData.tuple [x, y]) xs0 ys0).length (Gd H2 (A1 ++ A2)) (Yd g.K .sh (List.zipWith (fun x y => PyData.tuple [x, y]) xs0 ys0) (A1 ++ A2)) := by
        rw [List.length_zipWith, ← hl, ← hm]
        refine (walk_zip rfl).mono (fun H3 q => ⟨(hg1 H3 q.left).1, (hg2 H3 q.right).1⟩) fun i H3 x H4 hi q y => ?_
        obtain ⟨T, x0, y0, rfl, hT, rfl, hx, hy⟩ := y
        have i1 : i < xs0.length := by omega
        have i2 : i < ys0.length := by omega
        obtain ⟨w1, C1, z1, s1, _⟩ := (hg1 _ q.left).2 i xs0[i] (by simp [i1])
        obtain ⟨w2, C2, z2, s2, _⟩ := (hg2 _ q.right).2 i ys0[i] (by simp [i2])
        have hx : xs[i]? = some x0 := hx
        have hy : ys[i]? = some y0 := hy
        rw [hx] at z1; cases z1
        rw [hy] at z2; cases z2
        exact ⟨same_upd hT, _, [], zip_get (by simp [i1]) (by simp [i2]), .inr ⟨pair_sh hT (rv_sh s1 ht1) (rv_sh s2 ht2), rfl⟩, fun a z => by cases z⟩
      exact ⟨a, b, xs, ys, rfl, .inl ⟨(hg1 H2 Gd.refl).1, (hg2 H2 Gd.refl).1, hf _ H2 f2 _ rel2' (st1.trans st2') (src wk)⟩⟩
    | _ => simp [zipD] at hd
  | tuple xs0 =>
    cases d2 with
    | tuple ys0 =>
      simp only [zipD, Option.some.injEq] at hd
      subst hd
      obtain ⟨a, xs, rfl, hl, hg1⟩ := r1.rv.tupG
      obtain ⟨b, ys, rfl, hm, hg2⟩ := r2.rv.tupG
      have wk : Walk (RZ.ItzT g.K a b) (List.zipWith (fun x y => PyData.tuple [x, y]) xs0 ys0).length (Gd H2 (A1 ++ A2)) (Yd g.K .sh (List.zipWith (fun x y => PyData.tuple [x, y]) xs0 ys0) (A1 ++ A2)) := by
        rw [List.length_zipWith, ← hl, ← hm]
        refine ⟨fun i H3 hi q => ⟨xs, ys, xs[i]'(by omega), ys[i]'(by omega), (hg1 H3 q.left).1, (hg2 H3 q.right).1, by simp [show i < xs.length by omega], by simp [show i < ys.length by omega]⟩, fun H3 q => ⟨xs, ys, (hg1 H3 q.left).1, (hg2 H3 q.right).1, by omega⟩, fun i H3 x H4 hi q y => ?_⟩
        obtain ⟨T, x0, y0, rfl, hT, rfl, hx, hy⟩ := y
        have i1 : i < xs0.length := by omega
        have i2 : i < ys0.length := by omega
        obtain ⟨w1, z1, s1⟩ := (hg1 _ q.left).2.get (i := i) (d := xs0[i]) (by simp [i1])
        obtain ⟨w2, z2, s2⟩ := (hg2 _ q.right).2.get (i := i) (d := ys0[i]) (by simp [i2])
        rw [hx xs (hg1 _ q.left).1] at z1; cases z1
        rw [hy ys (hg2 _ q.right).1] at z2; cases z2
        exact ⟨same_upd hT, _, [], zip_get (by simp [i1]) (by simp [i2]), .inr ⟨pair_sh hT s1 s2, rfl⟩, fun a z => by cases z⟩
      exact ⟨a, b, xs, ys, rfl, .inr ⟨(hg1 H2 Gd.refl).1, (hg2 H2 Gd.refl).1, hf _ H2 f2 _ rel2' (st1.trans st2') (src wk)⟩⟩
    | _ => simp [zipD] at hd
  | _ => simp [zipD] at hd
end
end VL


set_option Elab.async false
set_option linter.all false
set_option maxRecDepth 100000
set_option maxHeartbeats 1000000
/-! VL12: list comprehensions. -/
namespace VL
open PySem PySem.Spec PyProof.Rows L2
def blank (vs : List Nat) (c : Cn) : Cn := c.mapIdx fun i s => if i ∈ vs then .no else s
def blankF (vs : List Nat) (f : Ft) : Ft := fun i => if i ∈ vs then [] else f i
def mixF (vs : List Nat) (f1 f2 : Ft) : Ft := fun i => if i ∈ vs then f1 i else f2 i
theorem blank_get {vs : List Nat} {c : Cn} {i : Nat} : (blank vs c)[i]? = (c[i]?).map fun s => if i ∈ vs then .no else s := by unfold blank; rw [List.getElem?_mapIdx]
theorem blank_len {vs : List Nat} {c : Cn} : (blank vs c).length = c.length := by unfold blank; simp
theorem blank_in {vs : List Nat} {c : Cn} {i : Nat} (h : i ∈ vs) : (blank vs c).getD i .no = .no := by
  rw [List.getD_eq_getElem?_getD, blank_get]
  cases c[i]? <;> simp [h]
theorem blank_off {vs : List Nat} {c : Cn} {i : Nat} (h : i ∉ vs) : (blank vs c).getD i .no = c.getD i .no := by
  rw [List.getD_eq_getElem?_getD, List.getD_eq_getElem?_getD, blank_get]
  cases c[i]? <;> simp [h]
theorem blank_get_off {vs : List Nat} {c : Cn} {i : Nat} (h : i ∉ vs) : (blank vs c)[i]? = c[i]? := by
  rw [blank_get]; cases c[i]? <;> simp [h]
theorem blankF_in {vs : List Nat} {f : Ft} {i : Nat} (h : i ∈ vs) : blankF vs f i = [] := by unfold blankF; rw [if_pos h]
theorem blankF_off {vs : List Nat} {f : Ft} {i : Nat} (h : i ∉ vs) : blankF vs f i = f i := by unfold blankF; rw [if_neg h]
theorem giveBack_len {e0 : Ev} : ∀ {vs : List Nat} {e : Ev}, (giveBack e0 vs e).length = e.length
  | [], e => rfl
  | i :: r, e => by unfold giveBack; rw [giveBack_len]; simp
theorem giveBack_off {e0 : Ev} {j : Nat} : ∀ {vs : List Nat} {e : Ev}, j ∉ vs → (giveBack e0 vs e).getD j .none = e.getD j .none
  | [], e, _ => rfl
  | i :: r, e, h => by
    unfold giveBack
    rw [giveBack_off fun z => h (List.mem_cons_of_mem _ z), setE_ne fun z => h (by rw [z]; exact List.mem_cons_self)]
theorem giveBack_in {e0 : Ev} {j : Nat} : ∀ {vs : List Nat} {e : Ev}, j ∈ vs → j < e.length → (giveBack e0 vs e).getD j .none = e0.getD j .none
  | i :: r, e, h, hl => by
    unfold giveBack
    by_cases hr : j ∈ r
    · exact giveBack_in hr (by simpa using hl)
    · rw [giveBack_off hr]
      rcases List.mem_cons.mp h with z | z
      · subst z; exact setE_same hl
      · exact absurd z hr
theorem wipe_at {σ : L2.St} {j : Nat} : ∀ {vs : List Nat}, j ∉ vs → (wipe σ vs)[j]? = σ[j]?
  | [], _ => rfl
  | v :: vs, h => by
    unfold wipe
    rw [List.getElem?_set_ne fun z => h (by rw [z]; exact List.mem_cons_self)]
    exact wipe_at fun z => h (List.mem_cons_of_mem _ z)
theorem wipe_in {σ : L2.St} {j : Nat} : ∀ {vs : List Nat}, j ∈ vs → j < σ.length → (wipe σ vs)[j]? = some none
  | v :: vs, h, hl => by
    unfold wipe
    by_cases hv : v = j
    · subst hv; rw [List.getElem?_set_self (by rw [wipe_length]; exact hl)]
    · rw [List.getElem?_set_ne hv]
      rcases List.mem_cons.mp h with z | z
      · exact absurd z.symm hv
      · exact wipe_in z hl
theorem wipe_eq {σ σ2 : L2.St} {vs : List Nat} (hl : σ2.length = σ.length) (h : ∀ j, j ∉ vs → σ2[j]? = σ[j]?) : wipe σ2 vs = wipe σ vs := by
  apply List.ext_getElem?
  intro j
  by_cases hj : j ∈ vs
  · by_cases hlt : j < σ.length
    · rw [wipe_in hj (by omega), wipe_in hj hlt]
    · rw [List.getElem?_eq_none (by rw [wipe_length]; omega), List.getElem?_eq_none (by rw [wipe_length]; omega)]
  · rw [wipe_at hj, wipe_at hj, h j hj]
section
variable {g : G} {c c1 : Cn} {vs : List Nat} {σ σ2 : L2.St} {e e0 e1 e2 e' : Ev} {H H1 H2 H' : Hp} {f f1 f2 f' : Ft}
/-- into the block -/
theorem Rel.blank (r : Rel g c e σ H f) : Rel g (blank vs c) e (wipe σ vs) H (blankF vs f) := by
  refine ⟨by rw [wipe_length]; exact r.lenE, by rw [blank_len, wipe_length]; exact r.lenC, fun i sl h n => ?_, fun i h => ?_, fun i j a hij ho h1 h2 => ?_, r.tabs⟩
  · by_cases hi : i ∈ vs
    · have := getD_eq h; rw [blank_in hi] at this; exact absurd this.symm n
    · rw [blank_get_off hi] at h
      obtain ⟨v, h1, h2⟩ := r.at_ i sl h n
      exact ⟨v, by rw [wipe_at hi]; exact h1, by rw [blankF_off hi]; exact h2⟩
  · by_cases hi : i ∈ vs
    · exact blankF_in hi
    · rw [blankF_off hi]; rw [blank_off hi] at h; exact r.free i h
  · by_cases hi : i ∈ vs
    · rw [blankF_in hi] at h1; cases h1
    · by_cases hj : j ∈ vs
      · rw [blankF_in hj] at h2; cases h2
      · rw [blankF_off hi] at h1; rw [blankF_off hj] at h2; rw [blank_off hi] at ho
        exact r.dis i j a hij ho h1 h2
/-- from a turn back to the block -/
theorem Rel.turn (r : Rel g c1 e2 σ2 H2 f2) (hc : ∀ j, j ∉ vs → c1[j]? = (VL.blank vs c)[j]?) (hl : c1.length = c.length) (hw : wipe σ2 vs = wipe σ vs) : Rel g (VL.blank vs c) e2 (wipe σ vs) H2 (blankF vs f2) := by
  have ls : σ2.length = σ.length := by rw [← wipe_length σ2 vs, hw, wipe_length]
  have z := r.blank (vs := vs)
  rw [hw] at z
  have e : VL.blank vs c1 = VL.blank vs c := by
    apply List.ext_getElem?
    intro j
    by_cases hj : j ∈ vs
    · rw [blank_get, blank_get]
      by_cases hlt : j < c.length
      · have h1 : j < c1.length := by omega
        simp [hj, hlt, h1]
      · rw [List.getElem?_eq_none (by omega), List.getElem?_eq_none (by omega)]
    · rw [blank_get_off hj, hc j hj]
  rw [e] at z
  exact z
theorem Stp.turn (s : Stp c1 e1 H1 f1 e2 H2 f2) (hc : ∀ j, j ∉ vs → c1.getD j .no = (VL.blank vs c).getD j .no) (hf : ∀ j ∈ vs, ownS (c1.getD j .no) = true → f1 j = []) (he : ∀ j, j ∉ vs → e1.getD j .none = e0.getD j .none) :
    Stp (VL.blank vs c) e0 H1 (blankF vs f1) e2 H2 (blankF vs f2) := by
  refine ⟨fun a o h n nt => s.fr a o h (fun j hj hm => ?_) nt, s.old, fun j a hj h => ?_, fun j hj => ?_⟩
  · by_cases hv : j ∈ vs
    · rw [hf j hv hj] at hm; cases hm
    · exact n j (by rw [← hc j hv]; exact hj) (by rw [blankF_off hv]; exact hm)
  · by_cases hv : j ∈ vs
    · rw [blankF_in hv] at h; cases h
    · rw [blankF_off hv] at h
      rcases s.gro j a (by rw [hc j hv]; exact hj) h with ⟨k, hk, z, w⟩ | z
      · have hkv : k ∉ vs := fun y => by rw [hf k y hk] at z; cases z
        exact .inl ⟨k, by rw [← hc k hkv]; exact hk, by rw [blankF_off hkv]; exact z, w.imp id fun w => by rw [← hc k hkv]; exact w⟩
      · exact .inr z
  · by_cases hv : j ∈ vs
    · exact ⟨by rw [blankF_in hv, blankF_in hv], fun z => absurd (blank_in hv) z⟩
    · rw [blankF_off hv, blankF_off hv]
      obtain ⟨k1, k2⟩ := s.keep j (by rw [hc j hv]; exact hj)
      exact ⟨k1, fun z => by rw [k2 (by rw [hc j hv]; exact z), he j hv]⟩
/-- out of the block -/
theorem Rel.unblank (r1 : Rel g c e1 σ H1 f1) (r : Rel g (VL.blank vs c) e' (wipe σ vs) H' f') (s : Stp (VL.blank vs c) e1 H1 (blankF vs f1) e' H' f') :
    Rel g c (giveBack e1 vs e') σ H' (mixF vs f1 f') ∧ Stp c e1 H1 f1 (giveBack e1 vs e') H' (mixF vs f1 f') := by
  have min : ∀ {j}, j ∈ vs → mixF vs f1 f' j = f1 j := fun h => by unfold mixF; rw [if_pos h]
  have mof : ∀ {j}, j ∉ vs → mixF vs f1 f' j = f' j := fun h => by unfold mixF; rw [if_neg h]
  /- what is hidden stays -/
  have hid : ∀ j, j ∈ vs → ∀ a ∈ f1 j, ∀ k, ownS ((VL.blank vs c).getD k .no) = true → a ∉ blankF vs f1 k := fun j hj a ha k hk hm => by
    have hkv : k ∉ vs := fun z => by rw [blank_in z] at hk; cases hk
    rw [blankF_off hkv] at hm
    rw [blank_off hkv] at hk
    exact r1.dis k j a (fun z => hkv (z ▸ hj)) hk hm ha
  have im : Im H1 H' := fun a o h i => s.fr a o h (fun k hk hm => by
    have hkv : k ∉ vs := fun z => by rw [blank_in z] at hk; cases hk
    rw [blankF_off hkv] at hm
    obtain ⟨xs, q⟩ := r1.foot k a hm
    rw [h] at q; cases q; cases i) fun ps z => by subst z; cases i
  have hlen : e'.length = c.length := by rw [r.lenE, ← r.lenC, blank_len]
  have ap : ∀ j, j ∈ vs → ∀ a ∈ f1 j, ∀ k, k ∉ vs → ownS (c.getD k .no) = true ∨ ownS (c.getD j .no) = true → a ∉ f' k := fun j hj a ha k hk ho hm => by
    by_cases hk' : ownS ((VL.blank vs c).getD k .no) = true
    · rcases s.gro k a hk' hm with ⟨l, hl, z, _⟩ | z
      · exact hid j hj a ha l hl z
      · obtain ⟨xs, q⟩ := r1.foot j a ha
        rw [z] at q; cases q
    · rw [(s.keep k (by simpa using hk')).1, blankF_off hk] at hm
      rw [blank_off hk] at hk'
      rcases ho with ho | ho
      · exact hk' ho
      · exact r1.dis j k a (fun z => hk (z ▸ hj)) ho ha hm
  refine ⟨⟨by rw [giveBack_len, r.lenE, wipe_length], r1.lenC, fun j sl h n => ?_, fun j h => ?_, fun j k a hjk ho h1 h2 => ?_, r.tabs⟩, ⟨fun a o h n nt => s.fr a o h (fun k hk hm => ?_) nt, s.old, fun j a ho h => ?_, fun j h => ?_⟩⟩
  · by_cases hj : j ∈ vs
    · obtain ⟨v, h1, h2⟩ := r1.at_ j sl h n
      refine ⟨v, h1, ?_⟩
      rw [min hj, giveBack_in hj (by rw [hlen]; exact (List.getElem?_eq_some_iff.mp h).1)]
      refine h2.mono im fun a ha o q => s.fr a o q (hid j hj a ha) fun ps z => ?_
      obtain ⟨xs, q'⟩ := r1.foot j a ha
      rw [z, q'] at q; cases q
    · obtain ⟨v, h1, h2⟩ := r.at_ j sl (by rw [blank_get_off hj]; exact h) n
      exact ⟨v, by rw [wipe_at hj] at h1; exact h1, by rw [mof hj, giveBack_off hj]; exact h2⟩
  · by_cases hj : j ∈ vs
    · rw [min hj]; exact r1.free j h
    · rw [mof hj]; exact r.free j (by rw [blank_off hj]; exact h)
  · by_cases hj : j ∈ vs
    · rw [min hj] at h1
      by_cases hk : k ∈ vs
      · rw [min hk] at h2; exact r1.dis j k a hjk ho h1 h2
      · rw [mof hk] at h2; exact ap j hj a h1 k hk (.inr ho) h2
    · rw [mof hj] at h1
      by_cases hk : k ∈ vs
      · rw [min hk] at h2; exact ap k hk a h2 j hj (.inl ho) h1
      · rw [mof hk] at h2; exact r.dis j k a hjk (by rw [blank_off hj]; exact ho) h1 h2
  · have hkv : k ∉ vs := fun z => by rw [blank_in z] at hk; cases hk
    rw [blankF_off hkv] at hm
    rw [blank_off hkv] at hk
    exact n k hk hm
  · by_cases hj : j ∈ vs
    · rw [min hj] at h; exact .inl ⟨j, ho, h, .inl rfl⟩
    · rw [mof hj] at h
      rcases s.gro j a (by rw [blank_off hj]; exact ho) h with ⟨k, hk, z, w⟩ | z
      · have hkv : k ∉ vs := fun y => by rw [blank_in y] at hk; cases hk
        rw [blankF_off hkv] at z
        rw [blank_off hkv] at hk w
        exact .inl ⟨k, hk, z, w⟩
      · exact .inr z
  · by_cases hj : j ∈ vs
    · refine ⟨min hj, fun z => ?_⟩
      by_cases hlt : j < c.length
      · exact giveBack_in hj (by rw [hlen]; exact hlt)
      · rw [List.getD_eq_getElem?_getD, List.getElem?_eq_none (by omega)] at z; exact absurd rfl z
    · rw [mof hj, giveBack_off hj]
      obtain ⟨k1, k2⟩ := s.keep j (by rw [blank_off hj]; exact h)
      rw [blankF_off hj] at k1
      exact ⟨k1, fun z => k2 (by rw [blank_off hj]; exact z)⟩
end

section
variable {g : G} {c c0 c1 : Cn} {W W0 : WX} {N : List Str} {sc fs : Scope} {TT : List Fn} {vs : List Nat} {σ : L2.St} {e e1 e2 : Ev} {H H1 H2 : Hp} {f f1 f2 : Ft} {D : Addr}
theorem Rel.wr {xs ys : List V} (r : Rel g c e σ H f) (hD : H D = some (.lst xs)) (n : ∀ j, D ∉ f j) : Rel g c e σ (upd H D (.lst ys)) f :=
  ⟨r.lenE, r.lenC, fun i sl h m => by
    obtain ⟨v, h1, h2⟩ := r.at_ i sl h m
    exact ⟨v, h1, h2.mono (up_im hD) fun a ha o q => by rw [upd_ne (fun z => n i (by rw [← z]; exact ha))]; exact q⟩, r.free, r.dis,
   g.tm _ _ (fun a o q m _ => by rw [upd_ne (fun z => by subst z; rw [hD] at q; cases q; exact m _ rfl)]; exact q) r.tabs⟩
theorem Stp.wr {x : HO} (s : Stp c e H f e1 H1 f1) (hD : H D = none) : Stp c e H f e1 (upd H1 D x) f1 :=
  ⟨fun a o h n nt => by rw [upd_ne (fun z => by subst z; rw [hD] at h; cases h)]; exact s.fr a o h n nt, fun a h => by
    by_cases z : a = D
    · rw [z]; exact hD
    · rw [upd_ne z] at h; exact s.old a h, s.gro, s.keep⟩
/-- what a turn does -/
def lcBody (TT : List Fn) (tg : Tg) (mc : M Bool) (me : M Dt) : Dt → M (Option Dt) := fun x => mb (bnd TT tg x) fun _ => mb mc fun k => match k with | true => mb me fun y => mp (some y) | false => mp none
def lcSem (TT : List Fn) (tg : Tg) (mi : M (List Dt)) (mc : M Bool) (me : M Dt) (vs : List Nat) : M Dt := mb mi fun xs => fun e => noExc
  (match (if xs.length ≤ sizeLine then lcLoop (lcBody TT tg mc me) xs e else .err) with
   | .ok (ys, e') => .ok (.list ys, giveBack e vs e')
   | .exc c ys => .exc c ys
   | .err => .err)
theorem lcBody_ok {tg : Tg} {mc : M Bool} {me : M Dt} {d : Dt} {e e' : Ev} {o : Option Dt} (h : lcBody TT tg mc me d e = .ok (o, e')) :
    ∃ e2 k e3, bnd TT tg d e = .ok ((), e2) ∧ mc e2 = .ok (k, e3) ∧ ((k = true ∧ ∃ y, me e3 = .ok (y, e') ∧ o = some y) ∨ (k = false ∧ e3 = e' ∧ o = none)) := by
  unfold lcBody mb at h
  cases h1 : bnd TT tg d e with
  | err => rw [h1] at h; cases h
  | exc x xs => rw [h1] at h; cases h
  | ok q =>
    obtain ⟨⟨⟩, e2⟩ := q
    rw [h1] at h
    simp only at h
    cases h2 : mc e2 with
    | err => rw [h2] at h; cases h
    | exc x xs => rw [h2] at h; cases h
    | ok q =>
      obtain ⟨k, e3⟩ := q
      rw [h2] at h
      simp only at h
      refine ⟨e2, k, e3, rfl, h2, ?_⟩
      cases k with
      | false => simp only [mp, R.ok.injEq, Prod.mk.injEq] at h; exact .inr ⟨rfl, h.2, h.1.symm⟩
      | true =>
        simp only at h
        cases h3 : me e3 with
        | err => rw [h3] at h; cases h
        | exc x xs => rw [h3] at h; cases h
        | ok q =>
          obtain ⟨y, e4⟩ := q
          rw [h3] at h
          simp only [mp, R.ok.injEq, Prod.mk.injEq] at h
          exact .inl ⟨rfl, y, by rw [← h.2], h.1.symm⟩
theorem lcLoop_cons {fb : Dt → M (Option Dt)} {d : Dt} {ds : List Dt} {e e' : Ev} {r : List Dt} (h : lcLoop fb (d :: ds) e = .ok (r, e')) :
    ∃ o e1 r1, fb d e = .ok (o, e1) ∧ lcLoop fb ds e1 = .ok (r1, e') ∧ r = o.toList ++ r1 := by
  unfold lcLoop at h
  cases h1 : fb d e with
  | err => rw [h1] at h; cases h
  | exc x xs => rw [h1] at h; cases h
  | ok q =>
    obtain ⟨o, e1⟩ := q
    rw [h1] at h
    simp only at h
    cases h2 : lcLoop fb ds e1 with
    | err => rw [h2] at h; cases h
    | exc x xs => rw [h2] at h; cases h
    | ok q =>
      obtain ⟨r1, e2⟩ := q
      rw [h2] at h
      simp only [R.ok.injEq, Prod.mk.injEq] at h
      exact ⟨o, e1, r1, rfl, by rw [h2, h.2], h.1.symm⟩
mutual
theorem stC_off : ∀ (tg : Tg) {t : Ty} {c : Cn} {j : Nat}, j ∉ tgIx tg → (stC t tg c)[j]? = c[j]?
  | .nm x i p, t, c, j, h => by
    simp only [stC, cset_get]
    have z : i ≠ j := fun z => h (by simp [tgIx, z])
    simp [z]
  | .tp ts p, t, c, j, h => by simp only [stC]; exact stCs_off ts (by simpa only [tgIx] using h)
  | .at b, t, c, j, h => rfl
theorem stCs_off : ∀ (ts : Tgs) {c : Cn} {j : Nat}, j ∉ tgIxs ts → (stCs ts c)[j]? = c[j]?
  | .nil, c, j, h => rfl
  | .cons t r, c, j, h => by
    simp only [tgIxs, List.mem_append, not_or] at h
    simp only [stCs]
    rw [stCs_off r h.2, stC_off t h.1]
end
/-- a block's start: the target stored -/
theorem blk_turn {tg : Tg} {T1 : Ty} (htg : tgOk fs sc N c0 tg = true) (ht : T1 = .sh ∨ ∃ x i p, tg = .nm x i p) (hvs : ∀ j ∈ tgIx tg, j ∈ vs) (hno : ∀ j ∈ vs, c0.getD j .no = .no) {er : Ev} {fr : Ft} {H' H'' : Hp} {x : V} {d : Dt} {B0 : List Addr} {Q : L2.St → Hp → Prop}
    (rel : Rel g c0 er (wipe σ vs) H' fr) (same : Same H' H'') (rv : Rv g.K H'' T1 x d B0) (dis : ∀ a ∈ B0, ∀ j, ownS (c0.getD j .no) = true → a ∉ fr j) {e2 : Ev} (hb : bnd TT tg d er = .ok ((), e2))
    (h : ∀ σ' f', Rel g (stC T1 tg c0) e2 σ' H'' f' → wipe σ' vs = wipe σ vs → blankF vs f' = fr → (∀ j, j ∉ vs → e2.getD j .none = er.getD j .none) → (∀ j ∈ vs, ownS ((stC T1 tg c0).getD j .no) = true → f' j = []) →
      (∀ j a, a ∈ f' j → a ∈ fr j ∨ a ∈ B0) → Q σ' H'') : gR g.K tg x (wipe σ vs) H'' Q := by
  refine bnd_h tg (t := T1) (c := c0) (B := B0) (f := fr) htg ht (rel.ext same (g.tm _ _ (fun a o q _ _ => same a o q) rel.tabs)) rv dis hb fun σ' f' r1 r2 r3 => ?_
  have hn : ∀ j, j ∉ vs → j ∉ tgIx tg := fun j h z => h (hvs j z)
  have fe : ∀ j ∈ vs, fr j = [] := fun j hj => rel.free j (hno j hj)
  refine h σ' f' r1 ?_ ?_ (fun j hj => (r2.off j (hn j hj)).2.1) (fun j hj ho => ?_) (fun j a ha => ?_)
  · refine wipe_eq (by rw [r2.len.2, wipe_length]) fun j hj => ?_
    rw [(r2.off j (hn j hj)).2.2, wipe_at hj]
  · funext j
    by_cases hj : j ∈ vs
    · rw [blankF_in hj, fe j hj]
    · rw [blankF_off hj, (r2.off j (hn j hj)).1]
  · by_cases hm : j ∈ tgIx tg
    · exact (r3 j hm).2 ho
    · rw [(r2.off j hm).1]; exact fe j hj
  · by_cases hm : j ∈ tgIx tg
    · rcases (r3 j hm).1 with z | z
      · rw [z] at ha; cases ha
      · rw [z] at ha; exact .inr ha
    · rw [(r2.off j hm).1] at ha; exact .inl ha
theorem lc_h {tg : Tg} {T T1 : Ty} {S1 : List Nat} {mi : M (List Dt)} {mc : M Bool} {me : M Dt} (hc0 : c0 = blank vs (lend c S1)) (htg : tgOk fs sc N c0 tg = true) (ht : T1 = .sh ∨ ∃ x i p, tg = .nm x i p) (hvs : ∀ j ∈ tgIx tg, j ∈ vs) {Q : VK}
    (h : tV g c W (lcSem TT tg mi mc me vs) (.ls T) [] σ H Q) : tLc (tI g c W mi T1 S1) (gR g.K tg) (tT g (stC T1 tg c0) W0 mc) (tV g (stC T1 tg c0) W0 me T []) vs σ H Q := by
  obtain ⟨e, f, rel, h⟩ := h
  refine ⟨e, f, rel, at_mono (at_abs h) fun ds e1 h1 J H1 f1 A rel1 st1 src => ?_⟩
  intro D hD
  unfold at_ at h1
  simp only at h1
  by_cases hz : ds.length ≤ sizeLine
  case neg => rw [if_neg hz] at h1; exact h1.elim
  rw [if_pos hz] at h1
  cases hL : lcLoop (lcBody TT tg mc me) ds e1 with
  | err => rw [hL] at h1; exact h1.elim
  | exc x xs => rw [hL] at h1; exact h1.elim
  | ok q =>
    obtain ⟨ys, e'⟩ := q
    rw [hL] at h1
    have hf : finV g c (.ls T) [] σ Q (.list ys) (giveBack e1 vs e') e H f := h1
    clear h1
    have hno : ∀ j ∈ vs, c0.getD j .no = .no := fun j hj => by rw [hc0]; exact blank_in hj
    have relL := rel1.lend S1
    have relB : Rel g c0 e1 (wipe σ vs) H1 (blankF vs f1) := by rw [hc0]; exact relL.blank
    have ho0 : ∀ j, ownS (c0.getD j .no) = true → j ∉ vs ∧ j ∉ S1 ∧ ownS (c.getD j .no) = true := fun j hj => by
      have hv : j ∉ vs := fun z => by rw [hno j z] at hj; cases hj
      rw [hc0, blank_off hv] at hj
      exact ⟨hv, lend_own hj⟩
    have sm := same_upd (o := .lst []) hD
    refine lc_it src.walk (fun i H' => ∃ er fr acc ys1 yr B, lcLoop (lcBody TT tg mc me) (ds.drop i) er = .ok (yr, e') ∧ ys1 ++ yr = ys ∧ acc.length ≤ i ∧ Rel g c0 er (wipe σ vs) H' fr ∧ Stp c0 e1 H1 (blankF vs f1) er H' fr ∧
        H' D = some (.lst acc) ∧ RepA g.K H' T acc ys1 B ∧ (∀ a ∈ B, H1 a = none ∧ a ≠ D) ∧ (∀ j a, ownS (c0.getD j .no) = true → a ∈ B → a ∉ fr j) ∧ ∀ j, D ∉ fr j) ?_ ?_ ?_ ?_
    · refine ⟨e1, _, [], [], ys, [], hL, rfl, Nat.le_refl _, relB.ext sm (g.tm _ _ (fun a o q _ _ => sm a o q) relB.tabs), Stp.ext sm, upd_same, .nil, (fun _ z => by cases z), (fun _ _ _ z => by cases z), fun j hm => ?_⟩
      obtain ⟨xs, q⟩ := relB.foot j D hm
      rw [hD] at q; cases q
    · rintro i H' hi ⟨er, fr, acc, ys1, yr, B, _, _, _, relI, stI, _⟩
      refine ⟨relB.im stI.fr, fun a ha o q => stI.fr a o q (fun j hj hm => ?_) fun ps z => ?_⟩
      · obtain ⟨hv, h2, h3⟩ := ho0 j hj
        rw [blankF_off hv] at hm
        exact src.dis j a h3 h2 ha hm
      · obtain ⟨xs, q'⟩ := src.foot a ha
        rw [z, q'] at q; cases q
    · rintro i x H' H'' hi ⟨er, fr, acc, ys1, yr, B, hl, hy, hac, relI, stI, hDI, rB, nB, dB, nD⟩ ⟨same, d, B0, hd, rv, hB0⟩
      rw [List.drop_eq_getElem_cons hi] at hl
      have ed : ds[i] = d := by simpa [hi] using hd
      rw [ed] at hl
      obtain ⟨o, er2, r1, hb, hl2, hr⟩ := lcLoop_cons hl
      obtain ⟨e2, k, e3, hb1, hb2, hb3⟩ := lcBody_ok hb
      have dis0 : ∀ a ∈ B0, ∀ j, ownS (c0.getD j .no) = true → a ∉ fr j := fun a ha j hj hm => by
        rcases stI.gro j a hj hm with ⟨l, hl, z, _⟩ | z
        · obtain ⟨hv, h2, h3⟩ := ho0 l hl
          rw [blankF_off hv] at z
          exact src.dis l a h3 h2 (hB0 a ha) z
        · obtain ⟨xs, q⟩ := src.foot a (hB0 a ha)
          rw [z] at q; cases q
      refine blk_turn (TT := TT) (vs := vs) (fs := fs) (sc := sc) (N := N) htg ht hvs hno relI same rv dis0 hb1 fun σ' f' r1' hw hbf heo hown hpt => ⟨hw, ?_⟩
      have cl : (stC T1 tg c0).length = (lend c S1).length := by rw [stC_len, hc0, blank_len]
      have coff : ∀ j, j ∉ vs → (stC T1 tg c0)[j]? = (blank vs (lend c S1))[j]? := fun j hj => by rw [stC_off tg (fun z => hj (hvs j z)), hc0]
      have coffD : ∀ j, j ∉ vs → (stC T1 tg c0).getD j .no = (blank vs (lend c S1)).getD j .no := fun j hj => by rw [List.getD_eq_getElem?_getD, List.getD_eq_getElem?_getD, coff j hj]
      have c0o : ∀ j, ownS ((stC T1 tg c0).getD j .no) = true → f' j = [] ∨ (ownS (c0.getD j .no) = true ∧ f' j = fr j) := fun j hj => by
        by_cases hv : j ∈ vs
        · exact .inl (hown j hv hj)
        · refine .inr ⟨by rw [hc0, ← coffD j hv]; exact hj, ?_⟩
          rw [← hbf, blankF_off hv]
      have nDf : ∀ j, D ∉ f' j := fun j hm => by
        rcases hpt j D hm with z | z
        · exact nD j z
        · obtain ⟨xs, q⟩ := src.foot D (hB0 D z)
          rw [hD] at q; cases q
      have nBf : ∀ j a, ownS ((stC T1 tg c0).getD j .no) = true → a ∈ B → a ∉ f' j := fun j a hj ha hm => by
        rcases c0o j hj with z | ⟨z1, z2⟩
        · rw [z] at hm; cases hm
        · rw [z2] at hm; exact dB j a z1 ha hm
      have hD2 : H'' D = some (.lst acc) := same D _ hDI
      have rB2 : RepA g.K H'' T acc ys1 B := rB.mono (Im.of same) fun a _ o q => same a o q
      /- what a turn's end gives -/
      have fin : ∀ {e4 : Ev} {H4 : Hp} {f4 : Ft}, Rel g (stC T1 tg c0) e4 σ' H4 f4 → Stp (stC T1 tg c0) e2 H'' f' e4 H4 f4 → Rel g c0 e4 (wipe σ vs) H4 (blankF vs f4) ∧ Stp c0 e1 H1 (blankF vs f1) e4 H4 (blankF vs f4) ∧ H4 D = some (.lst acc) ∧ RepA g.K H4 T acc ys1 B ∧
          (∀ j a, ownS (c0.getD j .no) = true → a ∈ B → a ∉ blankF vs f4 j) ∧ ∀ j, D ∉ f4 j := fun {e4 H4 f4} r4 s4 => by
        have t1 := r4.turn (vs := vs) coff cl hw
        have t2 := s4.turn (c := lend c S1) (e0 := er) coffD hown heo
        rw [← hc0] at t1 t2
        rw [hbf] at t2
        have kB : ∀ a ∈ B, ∀ o, H'' a = some o → H4 a = some o := fun a ha o q => s4.fr a o q (fun j hj => nBf j a hj ha) fun ps z => by
          obtain ⟨xs, q'⟩ := rB2.foot a ha
          rw [z, q'] at q; cases q
        refine ⟨t1, (stI.trans (Stp.ext same)).trans t2, s4.fr D _ hD2 (fun j _ => nDf j) (fun ps z => by cases z), rB2.mono (r1'.im s4.fr) kB, fun j a hj ha hm => ?_, fun j hm => ?_⟩
        · rcases t2.gro j a hj hm with ⟨l, hl, z, _⟩ | z
          · exact dB l a hl ha z
          · obtain ⟨xs, q⟩ := rB2.foot a ha
            rw [z] at q; cases q
        · by_cases hj : ownS ((stC T1 tg c0).getD j .no) = true
          · rcases s4.gro j D hj hm with ⟨l, _, z, _⟩ | z
            · exact nDf l z
            · rw [hD2] at z; cases z
          · rw [(s4.keep j (by simpa using hj)).1] at hm; exact nDf j hm
      refine ⟨e2, f', r1', ?_⟩
      unfold at_
      rw [hb2]
      intro H3 f3 rel3 st3
      rcases hb3 with ⟨rfl, y, hme, rfl⟩ | ⟨rfl, rfl, rfl⟩
      · refine iteT ⟨e3, f3, rel3, ?_⟩
        unfold at_
        rw [hme]
        intro v H4 f4 A4 rel4 st4 res4
        obtain ⟨t1, t2, t3, t4, t5, t6⟩ := fin rel4 (st3.trans st4)
        have nA : ∀ a ∈ A4, H'' a = none := fun a ha => by
          rcases res4.new a ha with z | ⟨j, hj, _⟩
          · exact st3.old a z
          · cases hj
        have nAD : ∀ a ∈ A4, a ≠ D := fun a ha z => by rw [z] at ha; have := nA D ha; rw [hD2] at this; cases this
        have nAB : ∀ a ∈ A4, a ∉ B := fun a ha z => by
          obtain ⟨xs, q⟩ := rB2.foot a z
          rw [nA a ha] at q; cases q
        obtain ⟨B2, rB4, mB⟩ := t4.snoc (res4.rep rfl) nAB
        have B2D : ∀ a ∈ B2, a ≠ D := fun a ha => by
          rcases mB a ha with z | z
          · exact (nB a z).2
          · exact nAD a z
        refine ⟨acc, t3, by omega, er2, blankF vs f4, acc ++ [v], ys1 ++ [y], r1, B2, hl2, ?_, ?_, t1.wr t3 (fun j hm => ?_), t2.wr hD, upd_same, rB4.mono (up_im t3) (fun a ha o q => by rw [upd_ne (B2D a ha)]; exact q), fun a ha => ⟨?_, B2D a ha⟩, fun j a hj ha hm => ?_, fun j hm => ?_⟩
        · rw [List.append_assoc, ← hy, hr]; rfl
        · rw [List.length_append, List.length_singleton]; omega
        · by_cases hv : j ∈ vs
          · rw [blankF_in hv] at hm; cases hm
          · rw [blankF_off hv] at hm; exact t6 j hm
        · rcases mB a ha with z | z
          · exact (nB a z).1
          · exact stI.old a (same.free (nA a z))
        · rcases mB a ha with z | z
          · exact t5 j a hj z hm
          · obtain ⟨hv, _, _⟩ := ho0 j hj
            rw [blankF_off hv] at hm
            exact res4.dis j a (by rw [coffD j hv, ← hc0]; exact hj) (by simp) z hm
        · by_cases hv : j ∈ vs
          · rw [blankF_in hv] at hm; cases hm
          · rw [blankF_off hv] at hm; exact t6 j hm
      · obtain ⟨t1, t2, t3, t4, t5, t6⟩ := fin rel3 st3
        refine iteF ⟨_, blankF vs f3, acc, ys1, r1, B, hl2, ?_, by omega, t1, t2, t3, t4, nB, t5, fun j hm => ?_⟩
        · rw [← hy, hr]; rfl
        · by_cases hv : j ∈ vs
          · rw [blankF_in hv] at hm; cases hm
          · rw [blankF_off hv] at hm; exact t6 j hm
    · rintro H' ⟨er, fr, acc, ys1, yr, B, hl, hy, hac, relI, stI, hDI, rB, nB, dB, nD⟩
      rw [List.drop_length] at hl
      simp only [lcLoop, R.ok.injEq, Prod.mk.injEq] at hl
      obtain ⟨e5, e6⟩ := hl
      subst e5; subst e6
      rw [List.append_nil] at hy
      subst hy
      subst hc0
      obtain ⟨u1, u2⟩ := relL.unblank relI stI
      have u3 := u1.back rel1 u2
      have u4 := u2.lent rel1
      have nDB : D ∉ B := fun z => (nB D z).2 rfl
      have rp : Rep g.K H' (.ls T) (.ref D) (.list ys1) (D :: B) := .ls hDI rB nDB
      have nn : ∀ a ∈ D :: B, H1 a = none := fun a ha => by
        rcases List.mem_cons.mp ha with z | z
        · rw [z]; exact hD
        · exact (nB a z).1
      refine hf (.ref D) H' _ (D :: B) u3 (st1.trans u4) ⟨.inl rp, fun _ => rp, fun a ha => .inl (st1.old a (nn a ha)), fun i a ho _ ha hm => ?_⟩
      unfold mixF at hm
      split at hm
      · obtain ⟨xs, q⟩ := rel1.foot i a hm
        rw [nn a ha] at q; cases q
      · rename_i hv
        by_cases hi : ownS ((blank vs (lend c S1)).getD i .no) = true
        · rcases List.mem_cons.mp ha with z | z
          · rw [z] at hm; exact nD i hm
          · exact dB i a hi z hm
        · rw [(stI.keep i (by simpa using hi)).1, blankF_off hv] at hm
          obtain ⟨xs, q⟩ := rel1.foot i a hm
          rw [nn a ha] at q; cases q
end
end VL


set_option Elab.async false
set_option linter.all false
set_option maxRecDepth 100000
set_option maxHeartbeats 1000000
/-! VL12a: dict comprehensions whose keys are tuples. -/
namespace VL
open PySem PySem.Spec PyProof.Rows L2
/-- a pair goes into a dict of tuple keys, as a comprehension puts it -/
theorem put_tup {Y : Cx} {pins : List (Addr × Obj)} {σ : L2.St} {M : Hp} {t : Shared} {E : Value → Shared → Prop} {D b : Addr} {kvs : List (List Key × V)} {ks : List Key} {z : V} {r : Value} {Q : Unit → Shared → Prop} (hu : Y.A.units + 1 < cLine) (J : L2.Inv Y pins σ M t)
    (hD : M D = some (.dT kvs)) (hb : M b = some (.tup (ks.map kV))) (hz : kvs.length < sizeLine) (rz : RelV z r) (go : ∀ t', L2.Inv Y pins σ (upd M D (.dT (putK kvs ks z))) t' → Q () t') : wpAny (model Y.prog Y.w) Y.A (dictSet D (.ref b) r) Q E t := by
  obtain ⟨lz, ne, xs, rel, dd⟩ := dt_of J.hok hD
  have lx : xs.length ≤ sizeLine := by rw [← Paired.length rel]; exact lz
  have lp : (putK kvs ks z).length ≤ sizeLine := by have := length_putK kvs ks z; omega
  refine wpAny_dictSet_heap (hsz := lx) (show Y.A.units < cLine from Nat.lt_of_succ_lt hu) (key_of J.hok hb) dd fun h' d' sb => go _ ?_
  obtain ⟨q, es, ep, e1, e2, e3, e4, _, e5⟩ := d'
  refine d_write J (by rw [hD]; exact True.intro) sb ⟨q, e1⟩ ⟨lp, ne, _, (rel.put ks hb rz).keeps fun c ys ec => ?_, q, es, ep, e1, e2, e3, e4, e5⟩
  have cD : c ≠ D := fun w => by rw [w, hD] at ec; cases ec
  rw [upd_ne cD]
  exact ec
section
variable {X : Cx}
/-- what a comprehension with tuple keys reads -/
def tDcT (wi : TI) (g : TG) (tt : TT) (tk tv : TE) (vs : List Nat) : TE := fun σ H Q => wi σ H fun J M => ∀ D, M D = none → ∃ W : Nat → Nat → Hp → Prop, (∃ m, W 0 m (upd M D (.dT []))) ∧ ∀ i m M1, W i m M1 →
  (J.stop i M1 ∧ Q (.ref D) M1) ∨ (J.go i M1 ∧ ∃ Nx : Hp → Prop, (∀ M', Nx M' → ∃ m', m' < m ∧ W (i + 1) m' M') ∧ ∀ x M', J.yld i M1 x M' → g x (wipe σ vs) M' fun σ2 M2 => wipe σ2 vs = wipe σ vs ∧ tt σ2 M2 fun b M3 =>
    if b = true then tk σ2 M3 fun y M4 => tv σ2 M4 fun z M5 => ∃ kvs k b, y = .ref b ∧ M5 b = some (.tup (k.map kV)) ∧ M5 D = some (.dT kvs) ∧ kvs.length < sizeLine ∧ Nx (upd M5 D (.dT (putK kvs k z))) else Nx M3)
/-- the walk of such a comprehension (as the kit walks one with ints or texts) -/
theorem walk_dcT {pins : List (Addr × Obj)} {t0 : Shared} {σ : L2.St} {M : Hp} {Q : VK} {kx vx tg it : Expr} {ifs : List Expr} {scp : Scope} {own : List (Str × Nat)} {p0 p1 : Pos} {wi : TI} {g : TG} {tt : TT} {tk tv : TE} {use : Option (Value → Sem Unit)} {Qf : Value → Shared → Prop}
    (hu : X.A.units + 1 < cLine) (cal : X.calm = true) (nod : X.N.Nodup) (I0 : L2.Inv X pins σ M t0) (pi : PI X tg it wi) (bo : BlkOk X.N X.env.scope scp own)
    (gs : ∀ (t : Shared) (M : Hp) (C : Addr) (cl : List (Str × Addr)) (fp : List Addr), PG (X.blk t M scp (compEnvC scp cl C X.env) fp) tg g) (ts : ∀ (t : Shared) (M : Hp) (C : Addr) (cl : List (Str × Addr)) (fp : List Addr), PTs (X.blk t M scp (compEnvC scp cl C X.env) fp) ifs tt)
    (ks : ∀ (t : Shared) (M : Hp) (C : Addr) (cl : List (Str × Addr)) (fp : List Addr), PE (X.blk t M scp (compEnvC scp cl C X.env) fp) kx tk)
    (es : ∀ (t : Shared) (M : Hp) (C : Addr) (cl : List (Str × Addr)) (fp : List Addr), PE (X.blk t M scp (compEnvC scp cl C X.env) fp) vx tv) (fo : ∀ x, foldedSetIterable it X.env x = pure x)
    (rd : tDcT wi g tt tk tv (own.map (·.2)) σ M Q)
    (out : ∀ D C t m M', L2.Inv X pins σ M' t → Q (.ref D) M' → t.heap.Ns C m → FpOk X pins M' C → compPost (model X.prog X.w) X.A X.xe use Qf (.ref D) C (.ok .next) t) :
    wpAny (model X.prog X.w) X.A (comprehension (.DictComp kx vx [⟨tg, it, ifs, 0⟩] scp p0) scp X.env p1 newDict false (eval it X.env) use) Qf X.xe t0 := by
  have cls : ∀ y ∈ scp.names, y.2 = .free → ∃ c, X.env.cells.lookup y.1 = some c := fun y hy e => by
    rcases bo.free y hy e with w | w
    · exact I0.ok.has _ (.inl w)
    · exact I0.ok.has _ (.inr w)
  refine wpAny_comprehension_free (use := use) rfl fo (closure_ok cls) bo.kind (fun y hy e => by rw [bo.uniq y hy, e])
    (thn (pi.run pins t0 σ M _ I0 rd) fun xv t1 hx => thn hx fun itv t2 h2 => ?_)
  obtain ⟨ia, fp, tn, J, M2, e, I2, T, st2, f2, q⟩ := h2
  subst e
  refine wpAny_newObj_type (newEnv_comp ?_)
  generalize eD : t2.heap.objs.size = D
  have dn : M2 D = none := I2.hok.fresh (Nat.le_of_eq eD)
  obtain ⟨W, ⟨m0, w0⟩, turn⟩ := q D dn
  generalize et3 : ({ t2 with heap := t2.heap.push { cls := .type "dict", data := .dict #[] } } : Shared) = t3
  have I3 : L2.Inv X pins σ (upd M2 D (.dT [])) t3 := by
    rw [← et3]
    refine I2.laid (t' := t2.toks) (fun b o e => Heap.get?_push_of_some _ e) (Nat.le_of_eq eD) ?_
    rw [← eD]
    exact dt_empty t2.heap I2.big
  have hp3 : t3.heap = t2.heap.push { cls := .type "dict", data := .dict #[] } := by rw [← et3]
  have small : ∀ b ∈ fp, b < t2.heap.objs.size := fun b hb => let ⟨o, e, _⟩ := T.obj _ _ st2 b hb; Heap.lt_size e
  have f3 : ∀ b ∈ fp, FpOk X pins (upd M2 D (.dT [])) b ∧ b < t3.heap.objs.size := fun b hb => by
    have lt := small b hb
    refine ⟨⟨?_, (f2 b hb).2⟩, by rw [hp3, Heap.size_push]; exact Nat.lt_succ_of_lt lt⟩
    rw [upd_ne (by rw [← eD]; exact Nat.ne_of_lt lt)]
    exact (f2 b hb).1
  have st3 : tn 0 t3.heap := T.keep _ _ _ st2 fun b _ o e => by rw [hp3]; exact Heap.get?_push_of_some _ e
  have I4 := block_start I3 bo nod f3
  have pg := gs t3 (upd M2 D (.dT [])) t3.heap.objs.size (cellsFrom (t3.heap.objs.size + 1) scp.names (cloFrom X.env.cells scp.names [])) fp
  have pt := ts t3 (upd M2 D (.dT [])) t3.heap.objs.size (cellsFrom (t3.heap.objs.size + 1) scp.names (cloFrom X.env.cells scp.names [])) fp
  have pk := ks t3 (upd M2 D (.dT [])) t3.heap.objs.size (cellsFrom (t3.heap.objs.size + 1) scp.names (cloFrom X.env.cells scp.names [])) fp
  have pv := es t3 (upd M2 D (.dT [])) t3.heap.objs.size (cellsFrom (t3.heap.objs.size + 1) scp.names (cloFrom X.env.cells scp.names [])) fp
  show codeAny _ _ (.compStart (.DictComp kx vx [⟨tg, it, ifs, 0⟩] scp p0) 0 (.ref ia) (.ref D) (compEnvC scp (cellsFrom (t3.heap.objs.size + 1) scp.names (cloFrom X.env.cells scp.names [])) t3.heap.objs.size X.env)) (compPost (model X.prog X.w) X.A X.xe use Qf (.ref D) t3.heap.objs.size) { t3 with heap := pushCells (t3.heap.push { cls := .type "dict", data := .dict #[] }) scp.names }
  have nfp : ∀ b ∈ fp, (upd M2 D (.dT [])) b = none := fun b hb => (f3 b hb).1.1
  generalize ece : compEnvC scp (cellsFrom (t3.heap.objs.size + 1) scp.names (cloFrom X.env.cells scp.names [])) t3.heap.objs.size X.env = ce at I4 pg pt pk pv ⊢
  have cL : ce.locals = t3.heap.objs.size := by subst ece; rfl
  generalize eM3 : upd M2 D (.dT []) = M3 at I3 I4 pg pt pk pv w0 nfp f3
  generalize et4 : ({ t3 with heap := pushCells (t3.heap.push { cls := .type "dict", data := .dict #[] }) scp.names } : Shared) = t4 at I4 ⊢
  have st4 : tn 0 t4.heap := T.keep _ _ _ st3 fun b _ o e => by rw [← et4]; exact pushCells_keeps _ _ _ _ (Heap.get?_push_of_some _ e)
  have stays : ∀ {σ' : L2.St} {M' : Hp} {t' : Shared}, L2.Inv (X.blk t3 M3 scp ce fp) [] σ' M' t' → (∀ b ∈ fp, M' b = none) → ∀ b ∈ fp, FpOk (X.blk t3 M3 scp ce fp) [] M' b := fun {σ' M' t'} I' n b hb =>
    ⟨n b hb, (I'.ok.exf b hb).1, I'.ok.exfs b hb, .inl hb, fun x c e => (I'.ok.exf b hb).2 x c e, fun p hp => absurd (show p ∈ ([] : List (Addr × Obj)) ++ [] from hp) (by simp)⟩
  have loop : codeAny (model X.prog X.w) X.A (.compLoop (.DictComp kx vx [⟨tg, it, ifs, 0⟩] scp p0) 0 (.ref ia) (.ref D) ce) (compPost (model X.prog X.w) X.A X.xe use Qf (.ref D) t3.heap.objs.size) t4 := by
    refine compLoop_anyD (fun n t' => ∃ i M', L2.Inv (X.blk t3 M3 scp ce fp) [] (wipe σ (own.map (·.2))) M' t' ∧ tn i t'.heap ∧ (∀ b ∈ fp, M' b = none) ∧ W i n M') ?_ m0 ⟨0, M3, I4, st4, nfp, w0⟩
    rintro n t5 ⟨i, M5, I5, st5, n5, w5⟩
    rcases turn i n M5 w5 with ⟨stop, qq⟩ | ⟨go, Nx, hNx, step⟩
    · refine thnF (T.done (X.blk t3 M3 scp ce fp) rfl rfl rfl cal i [] t5 _ M5 (fun _ _ => False) I5 (stays I5 n5) st5 stop) fun r t6 ⟨er, I6⟩ => ?_
      subst er
      have I7 : L2.Inv X pins σ M5 t6 := I3.call' (ch := fp) I6.os I6.base I6.hok I6.bare fun b hb => ⟨(f3 b hb).1.2.2.2.1, (f3 b hb).1.2.1, (f3 b hb).1.2.2.2.2.1, (f3 b hb).1.2.2.2.2.2⟩
      have nC : M5 t3.heap.objs.size = none := by
        have w : M5 ce.locals = none := I6.free
        rw [cL] at w
        exact w
      obtain ⟨m, ns, _⟩ := I6.loc
      have ns : t6.heap.Ns ce.locals m := ns
      rw [cL] at ns
      exact out D t3.heap.objs.size t6 m M5 I7 qq ns (I3.fpOk (Nat.le_refl _) nC)
    · refine thnF (T.item (X.blk t3 M3 scp ce fp) rfl rfl rfl cal i [] t5 _ M5 (fun _ _ => False) I5 (stays I5 n5) st5 go) fun r t6 ⟨u, er, h6⟩ => ?_
      subst er
      refine thnF h6 fun _ t7 ⟨x, M7, I7, r7, y7, st7, n7⟩ => ?_
      have I7' := I7.pinned (stays I7 n7) (T.obj _ _ st7)
      refine thnF (pg.run _ t7 _ M7 x u _ I7' r7 (step x M7 y7)) fun _ t8 ⟨σ8, M8, I8, w8, q8⟩ => ?_
      refine thnF (pt.run _ t8 σ8 M8 _ I8 q8) fun b t9 ⟨M9, I9, q9⟩ => ?_
      have last : ∀ {t' : Shared} {M' : Hp}, L2.Inv (X.blk t3 M3 scp ce fp) ([] ++ pinsAt fp t7.heap) σ8 M' t' → Nx M' → ∃ m, m < n ∧ ∃ i M', L2.Inv (X.blk t3 M3 scp ce fp) [] (wipe σ (own.map (·.2))) M' t' ∧ tn i t'.heap ∧ (∀ b ∈ fp, M' b = none) ∧ W i m M' := fun {t' M'} I' nx => by
        obtain ⟨m', lt, w'⟩ := hNx M' nx
        have pins' : ∀ b ∈ fp, ∀ o, t7.heap.get? b = some o → t'.heap.get? b = some o ∧ M' b = none := fun b hb o e =>
          let w := I'.pin (b, o) (List.mem_append_right _ (List.mem_append_right _ (mem_pinsAt hb e)))
          ⟨w.1, w.2.1⟩
        have len : (wipe σ (own.map (·.2))).length = σ8.length := by rw [← w8, wipe_length]
        refine ⟨m', lt, i + 1, M', (I'.unpinned (pins := [])).weak len (fun j v e => ?_), T.keep _ _ _ st7 fun b hb o e => (pins' b hb o e).1, fun b hb => ?_, w'⟩
        · rw [← w8] at e
          exact (wipe_some e).1
        · obtain ⟨o, e, _⟩ := T.obj _ _ st7 b hb
          exact (pins' b hb o e).2
      cases b with
      | false =>
        simp only [Bool.false_eq_true, if_false] at q9 ⊢
        exact last I9 q9
      | true =>
        simp only [if_true] at q9 ⊢
        refine thnF (pk.run _ t9 σ8 M9 _ I9 q9) fun zk t10 ⟨yk, M10, I10, r10, q10⟩ => ?_
        refine thnF (pv.run _ t10 σ8 M10 _ I10 q10) fun zv t11 ⟨yv, M11, I11, r11, kvs, k, bk, ek, eb, eDD, lz, nx⟩ => ?_
        subst ek
        obtain rfl : zk = Value.ref bk := r10
        exact put_tup (Y := X.blk t3 M3 scp ce fp) hu I11 eDD eb lz r11 fun t12 I12 => last I12 nx
  exact codeAny_compStart_dict loop (T.self X.A 0 _ _ _ st4 loop)
theorem pe_dcT {kx vx tg it : Expr} {ifs : List Expr} {scp : Scope} {own : List (Str × Nat)} {p0 : Pos} {wi : TI} {g : TG} {tt : TT} {tk tv : TE} (hu : X.A.units + 1 < cLine) (cal : X.calm = true) (nod : X.N.Nodup) (pi : PI X tg it wi) (bo : BlkOk X.N X.env.scope scp own)
    (gs : ∀ (t : Shared) (M : Hp) (C : Addr) (cl : List (Str × Addr)) (fp : List Addr), PG (X.blk t M scp (compEnvC scp cl C X.env) fp) tg g) (ts : ∀ (t : Shared) (M : Hp) (C : Addr) (cl : List (Str × Addr)) (fp : List Addr), PTs (X.blk t M scp (compEnvC scp cl C X.env) fp) ifs tt)
    (ks : ∀ (t : Shared) (M : Hp) (C : Addr) (cl : List (Str × Addr)) (fp : List Addr), PE (X.blk t M scp (compEnvC scp cl C X.env) fp) kx tk)
    (es : ∀ (t : Shared) (M : Hp) (C : Addr) (cl : List (Str × Addr)) (fp : List Addr), PE (X.blk t M scp (compEnvC scp cl C X.env) fp) vx tv) (fo : ∀ x, foldedSetIterable it X.env x = pure x) :
    PE X (.DictComp kx vx [⟨tg, it, ifs, 0⟩] scp p0) (tDcT wi g tt tk tv (own.map (·.2))) := by
  refine ⟨fun pins t0 σ M Q I0 rd => ?_⟩
  rw [arm_eval_DictComp]
  refine walk_dcT hu cal nod I0 pi bo gs ts ks es fo rd fun D C t m M' I' q ns fk => ⟨m, ns, fun h'' sb => ?_⟩
  obtain ⟨k0, k1, k2, k3, k4, k5⟩ := fk
  exact ⟨.ref D, M', I'.turned (t' := t.toks) (fun b o hb e => (sb.2 b hb).trans e) k0 k1 k3 k4 k5, rfl, q⟩
end
end VL


set_option Elab.async false
set_option linter.all false
set_option maxRecDepth 100000
set_option maxHeartbeats 1000000
/-! VL13: dict comprehensions; lists and tuples of a range; methods that look. -/
namespace VL
open PySem PySem.Spec PyProof.Rows L2
section
variable {K : PySem.W.Frag} {H : Hp}
theorem ShK.any {k : Key} : ∀ {kvs : List (Key × V)} {ds : List (Dt × Dt)}, ShK K H kvs ds → (ds.any fun q => PyData.eqv q.1 (kD k)) = (kvs.any fun kv => decide (kv.1 = k))
  | _, _, .nil => rfl
  | _, _, .cons (k := k') h t => by simp only [List.any_cons]; rw [ShK.any t, kD_eqv]
theorem ShK.mapv {k : Key} {v : V} {d : Dt} (s : Sh K H v d) : ∀ {kvs : List (Key × V)} {ds : List (Dt × Dt)}, ShK K H kvs ds → ShK K H (kvs.map fun kv => if kv.1 = k then (kv.1, v) else kv) (ds.map fun q => if PyData.eqv q.1 (kD k) = true then (q.1, d) else q)
  | _, _, .nil => .nil
  | _, _, .cons (k := k') h t => by
    simp only [List.map_cons]
    have z := ShK.mapv (k := k) s t
    by_cases e : k' = k
    · subst e
      simp only [kD_eqv, decide_true, if_true]
      exact .cons s z
    · simp only [kD_eqv, e, decide_false, if_false]
      exact .cons h z
theorem ShK.snoc {k : Key} {v : V} {d : Dt} (s : Sh K H v d) : ∀ {kvs : List (Key × V)} {ds : List (Dt × Dt)}, ShK K H kvs ds → ShK K H (kvs ++ [(k, v)]) (ds ++ [(kD k, d)])
  | _, _, .nil => .cons s .nil
  | _, _, .cons h t => .cons h (ShK.snoc s t)
theorem ShK.put {k : Key} {v : V} {d : Dt} {kvs : List (Key × V)} {ds : List (Dt × Dt)} (h : ShK K H kvs ds) (s : Sh K H v d) : ShK K H (putK kvs k v) (putD (kD k) d ds) := by
  unfold putK putD
  rw [h.any]
  split
  · exact h.mapv s
  · exact h.snoc s
theorem ShT.any {k : List Key} : ∀ {kvs : List (List Key × V)} {ds : List (Dt × Dt)}, ShT K H kvs ds → (ds.any fun q => PyData.eqv q.1 (.tuple (k.map kD))) = (kvs.any fun kv => decide (kv.1 = k))
  | _, _, .nil => rfl
  | _, _, .cons (k := k') h t => by simp only [List.any_cons]; rw [ShT.any t, kT_eqv]
theorem ShT.mapv {k : List Key} {v : V} {d : Dt} (s : Sh K H v d) : ∀ {kvs : List (List Key × V)} {ds : List (Dt × Dt)}, ShT K H kvs ds → ShT K H (kvs.map fun kv => if kv.1 = k then (kv.1, v) else kv) (ds.map fun q => if PyData.eqv q.1 (.tuple (k.map kD)) = true then (q.1, d) else q)
  | _, _, .nil => .nil
  | _, _, .cons (k := k') h t => by
    simp only [List.map_cons]
    have z := ShT.mapv (k := k) s t
    by_cases e : k' = k
    · subst e
      simp only [kT_eqv, decide_true, if_true]
      exact .cons s z
    · simp only [kT_eqv, e, decide_false, if_false]
      exact .cons h z
theorem ShT.snoc {k : List Key} {v : V} {d : Dt} (s : Sh K H v d) : ∀ {kvs : List (List Key × V)} {ds : List (Dt × Dt)}, ShT K H kvs ds → ShT K H (kvs ++ [(k, v)]) (ds ++ [(.tuple (k.map kD), d)])
  | _, _, .nil => .cons s .nil
  | _, _, .cons h t => .cons h (ShT.snoc s t)
theorem ShT.put {k : List Key} {v : V} {d : Dt} {kvs : List (List Key × V)} {ds : List (Dt × Dt)} (h : ShT K H kvs ds) (s : Sh K H v d) : ShT K H (putK kvs k v) (putD (.tuple (k.map kD)) d ds) := by
  unfold putK putD
  rw [h.any]
  split
  · exact h.mapv s
  · exact h.snoc s
/-! ### the kind of the keys -/
theorem put_old {k v : Dt} {l : List (Dt × Dt)} {q : Dt × Dt} (h : q ∈ l) : ∃ q' ∈ putD k v l, q'.1 = q.1 := by
  unfold putD
  split
  · exact ⟨_, List.mem_map.mpr ⟨q, h, rfl⟩, by split <;> rfl⟩
  · exact ⟨q, List.mem_append_left _ h, rfl⟩
theorem key_re {k : Dt} (h : (keyD k || keyT k) = true) : PyData.eqv k k = true := by
  rw [Bool.or_eq_true] at h
  rcases h with h | h
  · obtain ⟨z, rfl⟩ := keyD_kD h
    rw [kD_eqv]; simp
  · obtain ⟨z, rfl⟩ := keyT_kD h
    rw [kT_eqv]; simp
theorem put_new {k v : Dt} {l : List (Dt × Dt)} (h : (keyD k || keyT k) = true) : ∃ q ∈ putD k v l, PyData.eqv q.1 k = true := by
  unfold putD
  split
  · rename_i hh
    obtain ⟨q, hq, e⟩ := List.any_eq_true.mp hh
    exact ⟨(q.1, v), List.mem_map.mpr ⟨q, hq, by rw [if_pos e]⟩, e⟩
  · exact ⟨(k, v), List.mem_append_right _ (by simp), key_re h⟩
theorem eqv_kind {q k : Dt} (hq : (keyD k || keyT k) = true) (e : PyData.eqv q k = true) : (keyD q = true → keyD k = true) ∧ (keyT q = true → keyT k = true) := by
  rw [Bool.or_eq_true] at hq
  constructor
  · intro h
    rcases hq with z | z
    · exact z
    · obtain ⟨a, rfl⟩ := keyD_kD h
      obtain ⟨b, rfl⟩ := keyT_kD z
      cases a <;> simp [kD, PyData.eqv] at e
  · intro h
    rcases hq with z | z
    · obtain ⟨a, rfl⟩ := keyT_kD h
      obtain ⟨b, rfl⟩ := keyD_kD z
      cases b <;> simp [kD, PyData.eqv] at e
    · exact z
end
section
variable {g : G} {c c0 : Cn} {W W0 : WX} {N : List Str} {sc fs : Scope} {lv : Nat} {X : Cx} {TT : List Fn} {vs : List Nat} {σ : L2.St} {e e1 e2 : Ev} {H H1 H2 : Hp} {f f1 f2 : Ft} {D : Addr}
theorem Rel.foot0 (r : Rel g c e σ H f) (h : ∀ xs, H D ≠ some (.lst xs)) : ∀ j, D ∉ f j := fun j hm => by
  obtain ⟨xs, q⟩ := r.foot j D hm
  exact h xs q
theorem Rel.wrD {kvs kvs' : List (Key × V)} (r : Rel g c e σ H f) (hD : H D = some (.dK kvs)) (ht : g.tabs (upd H D (.dK kvs'))) : Rel g c e σ (upd H D (.dK kvs')) f :=
  ⟨r.lenE, r.lenC, fun i sl h m => by
    obtain ⟨v, h1, h2⟩ := r.at_ i sl h m
    refine ⟨v, h1, h2.mono (fun a o q io => ?_) fun a ha o q => ?_⟩
    · rw [upd_ne (fun z => by subst z; rw [hD] at q; cases q; cases io)]; exact q
    · rw [upd_ne (fun z => r.foot0 (fun xs z => by rw [hD] at z; cases z) i (by rw [← z]; exact ha))]; exact q, r.free, r.dis, ht⟩

theorem Rel.wrT {kvs kvs' : List (List Key × V)} (r : Rel g c e σ H f) (hD : H D = some (.dT kvs)) (ht : g.tabs (upd H D (.dT kvs'))) : Rel g c e σ (upd H D (.dT kvs')) f :=
  ⟨r.lenE, r.lenC, fun i sl h m => by
    obtain ⟨v, h1, h2⟩ := r.at_ i sl h m
    refine ⟨v, h1, h2.mono (fun a o q io => ?_) fun a ha o q => ?_⟩
    · rw [upd_ne (fun z => by subst z; rw [hD] at q; cases q; cases io)]; exact q
    · rw [upd_ne (fun z => r.foot0 (fun xs z => by rw [hD] at z; cases z) i (by rw [← z]; exact ha))]; exact q, r.free, r.dis, ht⟩

/-! ### dict comprehensions -/
def dcBody (TT : List Fn) (tg : Tg) (mk me : M Dt) : Dt → M (Dt × Dt) := fun x => mb (bnd TT tg x) fun _ => mb mk fun y => mb me fun z => mo (if (keyD y || keyT y) = true then some (y, z) else none)
def dcSem (TT : List Fn) (tg : Tg) (mi : M (List Dt)) (mk me : M Dt) (vs : List Nat) : M Dt := mb mi fun xs => fun e => noExc
  (match (if xs.length ≤ sizeLine then dcLoop (dcBody TT tg mk me) xs [] e else .err) with
   | .ok (kvs, e') => if kindB kvs = true then .ok (.dict kvs, giveBack e vs e') else .err
   | .exc c ys => .exc c ys
   | .err => .err)
theorem dcBody_ok {tg : Tg} {mk me : M Dt} {d : Dt} {e e' : Ev} {o : Dt × Dt} (h : dcBody TT tg mk me d e = .ok (o, e')) :
    ∃ e2 y e3 z, bnd TT tg d e = .ok ((), e2) ∧ mk e2 = .ok (y, e3) ∧ me e3 = .ok (z, e') ∧ (keyD y || keyT y) = true ∧ o = (y, z) := by
  unfold dcBody mb at h
  cases h1 : bnd TT tg d e with
  | err => rw [h1] at h; cases h
  | exc x xs => rw [h1] at h; cases h
  | ok q =>
    obtain ⟨⟨⟩, e2⟩ := q
    rw [h1] at h
    simp only at h
    cases h2 : mk e2 with
    | err => rw [h2] at h; cases h
    | exc x xs => rw [h2] at h; cases h
    | ok q =>
      obtain ⟨y, e3⟩ := q
      rw [h2] at h
      simp only at h
      cases h3 : me e3 with
      | err => rw [h3] at h; cases h
      | exc x xs => rw [h3] at h; cases h
      | ok q =>
        obtain ⟨z, e4⟩ := q
        rw [h3] at h
        simp only at h
        by_cases hk : (keyD y || keyT y) = true
        · simp only [hk, if_true, mo, R.ok.injEq, Prod.mk.injEq] at h
          exact ⟨e2, y, e3, z, rfl, h2, by rw [h3, h.2], hk, h.1.symm⟩
        · simp [hk, mo] at h
theorem dcLoop_cons {fb : Dt → M (Dt × Dt)} {d : Dt} {ds : List Dt} {kvs r : List (Dt × Dt)} {e e' : Ev} (h : dcLoop fb (d :: ds) kvs e = .ok (r, e')) :
    ∃ k v e1, fb d e = .ok ((k, v), e1) ∧ dcLoop fb ds (putD k v kvs) e1 = .ok (r, e') := by
  unfold dcLoop at h
  cases h1 : fb d e with
  | err => rw [h1] at h; cases h
  | exc x xs => rw [h1] at h; cases h
  | ok q =>
    obtain ⟨⟨k, v⟩, e1⟩ := q
    rw [h1] at h
    exact ⟨k, v, e1, rfl, h⟩
theorem loop_old {fb : Dt → M (Dt × Dt)} {q : Dt × Dt} : ∀ {ds : List Dt} {kvs r : List (Dt × Dt)} {e e' : Ev}, dcLoop fb ds kvs e = .ok (r, e') → q ∈ kvs → ∃ q' ∈ r, q'.1 = q.1
  | [], kvs, r, e, e', h, hq => by
    simp only [dcLoop, R.ok.injEq, Prod.mk.injEq] at h
    rw [← h.1]; exact ⟨q, hq, rfl⟩
  | d :: ds, kvs, r, e, e', h, hq => by
    obtain ⟨k, v, e1, h1, h2⟩ := dcLoop_cons h
    obtain ⟨q1, m1, e1⟩ := put_old (k := k) (v := v) hq
    obtain ⟨q2, m2, e2⟩ := loop_old (q := q1) h2 m1
    exact ⟨q2, m2, e2.trans e1⟩
theorem loop_kind {fb : Dt → M (Dt × Dt)} {ds : List Dt} {kvs r : List (Dt × Dt)} {e e' : Ev} {y z : Dt} (hk : (keyD y || keyT y) = true) (h : dcLoop fb ds (putD y z kvs) e = .ok (r, e')) :
    (r.all (fun q => keyD q.1) = true → keyD y = true) ∧ (r.all (fun q => keyT q.1) = true → keyT y = true) := by
  obtain ⟨q, mq, eq⟩ := put_new (v := z) (l := kvs) hk
  obtain ⟨q', mq', e2⟩ := loop_old h mq
  obtain ⟨k1, k2⟩ := eqv_kind hk eq
  exact ⟨fun a => k1 (by rw [← e2]; exact List.all_eq_true.mp a q' mq'), fun a => k2 (by rw [← e2]; exact List.all_eq_true.mp a q' mq')⟩
/-- a new dict -/
def finD (g : G) (c : Cn) (σ : L2.St) (Q : VK) : Fn_ Dt := fun d e' e H f => ∀ D ds H' f', d = .dict ds → Rel g c e' σ H' f' → Stp c e H f e' H' f' → H D = none → ((∃ kvs, H' D = some (.dK kvs) ∧ ShK g.K H' kvs ds) ∨ ∃ kvs, H' D = some (.dT kvs) ∧ ShT g.K H' kvs ds) → Q (.ref D) H'
def tD (g : G) (c : Cn) (W : WX) (m : M Dt) : TE := fun σ H Q => ∃ e f, Rel g c e σ H f ∧ at_ g c W (finD g c σ Q) m e f σ H
theorem Stp.wrD {x : HO} (s : Stp c e H f e1 H1 f1) (hD : H D = none) : Stp c e H f e1 (upd H1 D x) f1 := s.wr hD
/-- what comes of a run -/
def kOf (m : M Dt) (e : Ev) (p : Dt → Bool) : Prop := ∀ ys e', m e = .ok (.dict ys, e') → ys.all (fun q => p q.1) = true
theorem at_monoE {g : G} {c : Cn} {W : WX} {α : Type} {F' F2 : Fn_ α} {m1 : M α} (h : at_ g c W F' m1 e f σ H) (i : ∀ x e1, m1 e = .ok (x, e1) → F' x e1 e H f → F2 x e1 e H f) : at_ g c W F2 m1 e f σ H := by
  unfold at_ at h ⊢
  cases q : m1 e with
  | err => rw [q] at h; exact h
  | exc x xs => rw [q] at h; exact h
  | ok p => rw [q] at h; exact i _ _ q h
theorem dc_h {tg : Tg} {T1 : Ty} {S1 : List Nat} {mi : M (List Dt)} {mk me : M Dt} (hc0 : c0 = blank vs (lend c S1)) (htg : tgOk fs sc N c0 tg = true) (ht : T1 = .sh ∨ ∃ x i p, tg = .nm x i p) (hvs : ∀ j ∈ tgIx tg, j ∈ vs) {Q : VK}
    (rel : Rel g c e σ H f) (h : at_ g c W (finD g c σ Q) (dcSem TT tg mi mk me vs) e f σ H) (hkind : kOf (dcSem TT tg mi mk me vs) e keyD) : tDc (tI g c W mi T1 S1) (gR g.K tg) tYes (tV g (stC T1 tg c0) W0 mk .sh []) (tV g (stC T1 tg c0) W0 me .sh []) vs σ H Q := by
  refine ⟨e, f, rel, at_monoE (at_abs h) fun ds e1 hmi h1 J H1 f1 A rel1 st1 src => ?_⟩
  intro D hD
  unfold at_ at h1
  simp only at h1
  by_cases hz : ds.length ≤ sizeLine
  case neg => rw [if_neg hz] at h1; exact h1.elim
  rw [if_pos hz] at h1
  cases hL : dcLoop (dcBody TT tg mk me) ds [] e1 with
  | err => rw [hL] at h1; exact h1.elim
  | exc x xs => rw [hL] at h1; exact h1.elim
  | ok q =>
    obtain ⟨ys, e'⟩ := q
    rw [hL] at h1
    by_cases hkb : kindB ys = true
    case neg => simp only [noExc, hkb, if_false] at h1; exact (by simpa using h1 : False).elim
    have hf : finD g c σ Q (.dict ys) (giveBack e1 vs e') e H f := by simpa only [noExc, hkb, if_true] using h1
    have hall := hkind ys (giveBack e1 vs e') (by
      unfold dcSem mb
      rw [hmi]
      simp only [hz, if_true, hL, hkb, noExc])
    clear h1
    have hno : ∀ j ∈ vs, c0.getD j .no = .no := fun j hj => by rw [hc0]; exact blank_in hj
    have relL := rel1.lend S1
    have relB : Rel g c0 e1 (wipe σ vs) H1 (blankF vs f1) := by rw [hc0]; exact relL.blank
    have ho0 : ∀ j, ownS (c0.getD j .no) = true → j ∉ vs ∧ j ∉ S1 ∧ ownS (c.getD j .no) = true := fun j hj => by
      have hv : j ∉ vs := fun z => by rw [hno j z] at hj; cases hj
      rw [hc0, blank_off hv] at hj
      exact ⟨hv, lend_own hj⟩
    have sm := same_upd (o := .dK []) hD
    have key : ∃ W : Nat → Nat → Hp → Prop, (∃ m, W 0 m (upd H1 D (.dK []))) ∧ ∀ i m H, W i m H →
      (J.stop i H ∧ Q (.ref D) H) ∨ (J.go i H ∧ ∃ Nx : Hp → Prop, (∀ H', Nx H' → ∃ m', m' < m ∧ W (i + 1) m' H') ∧ ∀ x H', J.yld i H x H' → gR g.K tg x (wipe σ vs) H' fun σ2 H2 => wipe σ2 vs = wipe σ vs ∧ tYes σ2 H2 fun b H3 =>
        if b = true then tV g (stC T1 tg c0) W0 mk .sh [] σ2 H3 fun y H4 => tV g (stC T1 tg c0) W0 me .sh [] σ2 H4 fun z H5 => ∃ kvs k, y = kV k ∧ H5 D = some (.dK kvs) ∧ kvs.length < sizeLine ∧ Nx (upd H5 D (.dK (putK kvs k z))) else Nx H3) := by
      let Pv : Nat → Hp → Prop := fun i H' => ∃ er fr kvs ys1, dcLoop (dcBody TT tg mk me) (ds.drop i) ys1 er = .ok (ys, e') ∧ kvs.length ≤ i ∧ Rel g c0 er (wipe σ vs) H' fr ∧ Stp c0 e1 H1 (blankF vs f1) er H' fr ∧
        H' D = some (.dK kvs) ∧ ShK g.K H' kvs ys1
      refine ⟨fun i m H => m = ds.length - i ∧ i ≤ ds.length ∧ Pv i H, ⟨ds.length, by simp, Nat.zero_le _, e1, _, [], [], hL, Nat.le_refl _, relB.ext sm (g.tm _ _ (fun a o q _ _ => sm a o q) relB.tabs), Stp.ext sm, upd_same, .nil⟩, ?_⟩
      rintro i m H' ⟨rfl, hi, pv⟩
      have gd : Gd H1 A H' := by
        obtain ⟨er, fr, kvs, ys1, _, _, relI, stI, _⟩ := pv
        refine ⟨relB.im stI.fr, fun a ha o q => stI.fr a o q (fun j hj hm => ?_) fun ps z => ?_⟩
        · obtain ⟨hv, h2, h3⟩ := ho0 j hj
          rw [blankF_off hv] at hm
          exact src.dis j a h3 h2 ha hm
        · obtain ⟨xs, q'⟩ := src.foot a ha
          rw [z, q'] at q; cases q
      by_cases hlt : i < ds.length
      · refine .inr ⟨src.walk.goes i H' hlt gd, Pv (i + 1), fun H'' p' => ⟨ds.length - (i + 1), by omega, rfl, hlt, p'⟩, fun x H'' y => ?_⟩
        obtain ⟨same, d, B0, hd, rv, hB0⟩ := src.walk.yields i H' x H'' hlt gd y
        obtain ⟨er, fr, kvs, ys1, hl, hac, relI, stI, hDI, sK⟩ := pv
        rw [List.drop_eq_getElem_cons hlt] at hl
        have ed : ds[i] = d := by simpa [hlt] using hd
        rw [ed] at hl
        obtain ⟨ky, zv, er2, hb, hl2⟩ := dcLoop_cons hl
        obtain ⟨e2, y', e3, z', hb1, hb2, hb3, hkey, ho⟩ := dcBody_ok hb
        cases ho
        obtain ⟨kk, rfl⟩ := keyD_kD ((loop_kind hkey hl2).1 hall)
        have dis0 : ∀ a ∈ B0, ∀ j, ownS (c0.getD j .no) = true → a ∉ fr j := fun a ha j hj hm => by
          rcases stI.gro j a hj hm with ⟨l, hl, z, _⟩ | z
          · obtain ⟨hv, h2, h3⟩ := ho0 l hl
            rw [blankF_off hv] at z
            exact src.dis l a h3 h2 (hB0 a ha) z
          · obtain ⟨xs, q⟩ := src.foot a (hB0 a ha)
            rw [z] at q; cases q
        refine blk_turn (TT := TT) (vs := vs) (fs := fs) (sc := sc) (N := N) htg ht hvs hno relI same rv dis0 hb1 fun σ' f' r1' hw hbf heo hown hpt => ⟨hw, ?_⟩
        have cl : (stC T1 tg c0).length = (lend c S1).length := by rw [stC_len, hc0, blank_len]
        have coff : ∀ j, j ∉ vs → (stC T1 tg c0)[j]? = (blank vs (lend c S1))[j]? := fun j hj => by rw [stC_off tg (fun z => hj (hvs j z)), hc0]
        have coffD : ∀ j, j ∉ vs → (stC T1 tg c0).getD j .no = (blank vs (lend c S1)).getD j .no := fun j hj => by rw [List.getD_eq_getElem?_getD, List.getD_eq_getElem?_getD, coff j hj]
        show (if true = true then _ else Pv (i + 1) H'')
        refine iteT ⟨e2, f', r1', ?_⟩
        unfold at_
        rw [hb2]
        intro v3 H3 f3 A3 rel3 st3 res3
        refine ⟨e3, f3, rel3, ?_⟩
        unfold at_
        rw [hb3]
        intro v4 H4 f4 A4 rel4 st4 res4
        have s4 := st3.trans st4
        have t1 := rel4.turn (vs := vs) coff cl hw
        have t2 := s4.turn (c := lend c S1) (e0 := er) coffD hown heo
        rw [← hc0] at t1 t2
        rw [hbf] at t2
        have hD2 : H'' D = some (.dK kvs) := same D _ hDI
        have nDf : ∀ j, D ∉ f' j := r1'.foot0 fun xs z => by rw [hD2] at z; cases z
        have hD4 : H4 D = some (.dK kvs) := s4.fr D _ hD2 (fun j _ => nDf j) (fun ps z => by cases z)
        have im4 : Im H' H4 := (Im.of same).trans (r1'.im s4.fr)
        have sv : Sh g.K H4 v4 zv := by have z := res4.rep rfl; cases z with | sh z => exact z
        have sk : v3 = kV kk := by have z := res3.rep rfl; cases z with | sh z => exact sh_key z
        have sK4 := (sK.mono im4).put (k := kk) sv
        have imD : Im H4 (upd H4 D (.dK (putK kvs kk v4))) := fun a o q io => by rw [upd_ne (fun z => by subst z; rw [hD4] at q; cases q; cases io)]; exact q
        refine ⟨kvs, kk, sk, hD4, by omega, er2, blankF vs f4, putK kvs kk v4, _, hl2, ?_, t1.wrD hD4 ?_, ((stI.trans (Stp.ext same)).trans t2).wr hD, upd_same, sK4.mono imD⟩
        · have := length_putK kvs kk v4; omega
        · refine g.tm _ _ (fun a o q _ n => ?_) t1.tabs
          rw [upd_ne (fun z => by subst z; rw [hD4] at q; cases q; exact n.1 _ rfl)]; exact q
      · have ei : i = ds.length := by omega
        subst ei
        refine .inl ⟨src.walk.stops H' gd, ?_⟩
        obtain ⟨er, fr, kvs, ys1, hl, hac, relI, stI, hDI, sK⟩ := pv
        rw [List.drop_length] at hl
        simp only [dcLoop, R.ok.injEq, Prod.mk.injEq] at hl
        obtain ⟨e5, e6⟩ := hl
        subst e5; subst e6
        subst hc0
        obtain ⟨u1, u2⟩ := relL.unblank relI stI
        exact hf D ys1 H' _ rfl (u1.back rel1 u2) (st1.trans (u2.lent rel1)) (st1.old D hD) (.inl ⟨kvs, hDI, sK⟩)
    exact key
theorem dc_hT {tg : Tg} {T1 : Ty} {S1 : List Nat} {mi : M (List Dt)} {mk me : M Dt} (hc0 : c0 = blank vs (lend c S1)) (htg : tgOk fs sc N c0 tg = true) (ht : T1 = .sh ∨ ∃ x i p, tg = .nm x i p) (hvs : ∀ j ∈ tgIx tg, j ∈ vs) {Q : VK}
    (rel : Rel g c e σ H f) (h : at_ g c W (finD g c σ Q) (dcSem TT tg mi mk me vs) e f σ H) (hkind : kOf (dcSem TT tg mi mk me vs) e keyT) : tDcT (tI g c W mi T1 S1) (gR g.K tg) tYes (tV g (stC T1 tg c0) W0 mk .sh []) (tV g (stC T1 tg c0) W0 me .sh []) vs σ H Q := by
  refine ⟨e, f, rel, at_monoE (at_abs h) fun ds e1 hmi h1 J H1 f1 A rel1 st1 src => ?_⟩
  intro D hD
  unfold at_ at h1
  simp only at h1
  by_cases hz : ds.length ≤ sizeLine
  case neg => rw [if_neg hz] at h1; exact h1.elim
  rw [if_pos hz] at h1
  cases hL : dcLoop (dcBody TT tg mk me) ds [] e1 with
  | err => rw [hL] at h1; exact h1.elim
  | exc x xs => rw [hL] at h1; exact h1.elim
  | ok q =>
    obtain ⟨ys, e'⟩ := q
    rw [hL] at h1
    by_cases hkb : kindB ys = true
    case neg => simp only [noExc, hkb, if_false] at h1; exact (by simpa using h1 : False).elim
    have hf : finD g c σ Q (.dict ys) (giveBack e1 vs e') e H f := by simpa only [noExc, hkb, if_true] using h1
    have hall := hkind ys (giveBack e1 vs e') (by
      unfold dcSem mb
      rw [hmi]
      simp only [hz, if_true, hL, hkb, noExc])
    clear h1
    have hno : ∀ j ∈ vs, c0.getD j .no = .no := fun j hj => by rw [hc0]; exact blank_in hj
    have relL := rel1.lend S1
    have relB : Rel g c0 e1 (wipe σ vs) H1 (blankF vs f1) := by rw [hc0]; exact relL.blank
    have ho0 : ∀ j, ownS (c0.getD j .no) = true → j ∉ vs ∧ j ∉ S1 ∧ ownS (c.getD j .no) = true := fun j hj => by
      have hv : j ∉ vs := fun z => by rw [hno j z] at hj; cases hj
      rw [hc0, blank_off hv] at hj
      exact ⟨hv, lend_own hj⟩
    have sm := same_upd (o := .dT []) hD
    have key : ∃ W : Nat → Nat → Hp → Prop, (∃ m, W 0 m (upd H1 D (.dT []))) ∧ ∀ i m H, W i m H →
      (J.stop i H ∧ Q (.ref D) H) ∨ (J.go i H ∧ ∃ Nx : Hp → Prop, (∀ H', Nx H' → ∃ m', m' < m ∧ W (i + 1) m' H') ∧ ∀ x H', J.yld i H x H' → gR g.K tg x (wipe σ vs) H' fun σ2 H2 => wipe σ2 vs = wipe σ vs ∧ tYes σ2 H2 fun b H3 =>
        if b = true then tV g (stC T1 tg c0) W0 mk .sh [] σ2 H3 fun y H4 => tV g (stC T1 tg c0) W0 me .sh [] σ2 H4 fun z H5 => ∃ kvs k b, y = .ref b ∧ H5 b = some (.tup (k.map kV)) ∧ H5 D = some (.dT kvs) ∧ kvs.length < sizeLine ∧ Nx (upd H5 D (.dT (putK kvs k z))) else Nx H3) := by
      let Pv : Nat → Hp → Prop := fun i H' => ∃ er fr kvs ys1, dcLoop (dcBody TT tg mk me) (ds.drop i) ys1 er = .ok (ys, e') ∧ kvs.length ≤ i ∧ Rel g c0 er (wipe σ vs) H' fr ∧ Stp c0 e1 H1 (blankF vs f1) er H' fr ∧
        H' D = some (.dT kvs) ∧ ShT g.K H' kvs ys1
      refine ⟨fun i m H => m = ds.length - i ∧ i ≤ ds.length ∧ Pv i H, ⟨ds.length, by simp, Nat.zero_le _, e1, _, [], [], hL, Nat.le_refl _, relB.ext sm (g.tm _ _ (fun a o q _ _ => sm a o q) relB.tabs), Stp.ext sm, upd_same, .nil⟩, ?_⟩
      rintro i m H' ⟨rfl, hi, pv⟩
      have gd : Gd H1 A H' := by
        obtain ⟨er, fr, kvs, ys1, _, _, relI, stI, _⟩ := pv
        refine ⟨relB.im stI.fr, fun a ha o q => stI.fr a o q (fun j hj hm => ?_) fun ps z => ?_⟩
        · obtain ⟨hv, h2, h3⟩ := ho0 j hj
          rw [blankF_off hv] at hm
          exact src.dis j a h3 h2 ha hm
        · obtain ⟨xs, q'⟩ := src.foot a ha
          rw [z, q'] at q; cases q
      by_cases hlt : i < ds.length
      · refine .inr ⟨src.walk.goes i H' hlt gd, Pv (i + 1), fun H'' p' => ⟨ds.length - (i + 1), by omega, rfl, hlt, p'⟩, fun x H'' y => ?_⟩
        obtain ⟨same, d, B0, hd, rv, hB0⟩ := src.walk.yields i H' x H'' hlt gd y
        obtain ⟨er, fr, kvs, ys1, hl, hac, relI, stI, hDI, sK⟩ := pv
        rw [List.drop_eq_getElem_cons hlt] at hl
        have ed : ds[i] = d := by simpa [hlt] using hd
        rw [ed] at hl
        obtain ⟨ky, zv, er2, hb, hl2⟩ := dcLoop_cons hl
        obtain ⟨e2, y', e3, z', hb1, hb2, hb3, hkey, ho⟩ := dcBody_ok hb
        cases ho
        obtain ⟨kk, rfl⟩ := keyT_kD ((loop_kind hkey hl2).2 hall)
        have dis0 : ∀ a ∈ B0, ∀ j, ownS (c0.getD j .no) = true → a ∉ fr j := fun a ha j hj hm => by
          rcases stI.gro j a hj hm with ⟨l, hl, z, _⟩ | z
          · obtain ⟨hv, h2, h3⟩ := ho0 l hl
            rw [blankF_off hv] at z
            exact src.dis l a h3 h2 (hB0 a ha) z
          · obtain ⟨xs, q⟩ := src.foot a (hB0 a ha)
            rw [z] at q; cases q
        refine blk_turn (TT := TT) (vs := vs) (fs := fs) (sc := sc) (N := N) htg ht hvs hno relI same rv dis0 hb1 fun σ' f' r1' hw hbf heo hown hpt => ⟨hw, ?_⟩
        have cl : (stC T1 tg c0).length = (lend c S1).length := by rw [stC_len, hc0, blank_len]
        have coff : ∀ j, j ∉ vs → (stC T1 tg c0)[j]? = (blank vs (lend c S1))[j]? := fun j hj => by rw [stC_off tg (fun z => hj (hvs j z)), hc0]
        have coffD : ∀ j, j ∉ vs → (stC T1 tg c0).getD j .no = (blank vs (lend c S1)).getD j .no := fun j hj => by rw [List.getD_eq_getElem?_getD, List.getD_eq_getElem?_getD, coff j hj]
        show (if true = true then _ else Pv (i + 1) H'')
        refine iteT ⟨e2, f', r1', ?_⟩
        unfold at_
        rw [hb2]
        intro v3 H3 f3 A3 rel3 st3 res3
        refine ⟨e3, f3, rel3, ?_⟩
        unfold at_
        rw [hb3]
        intro v4 H4 f4 A4 rel4 st4 res4
        have s4 := st3.trans st4
        have t1 := rel4.turn (vs := vs) coff cl hw
        have t2 := s4.turn (c := lend c S1) (e0 := er) coffD hown heo
        rw [← hc0] at t1 t2
        rw [hbf] at t2
        have hD2 : H'' D = some (.dT kvs) := same D _ hDI
        have nDf : ∀ j, D ∉ f' j := r1'.foot0 fun xs z => by rw [hD2] at z; cases z
        have hD4 : H4 D = some (.dT kvs) := s4.fr D _ hD2 (fun j _ => nDf j) (fun ps z => by cases z)
        have im4 : Im H' H4 := (Im.of same).trans (r1'.im s4.fr)
        have sv : Sh g.K H4 v4 zv := by have z := res4.rep rfl; cases z with | sh z => exact z
        obtain ⟨bk, ebk, hbk⟩ : ∃ b, v3 = .ref b ∧ H3 b = some (.tup (kk.map kV)) := by have z := res3.rep rfl; cases z with | sh z => exact sh_keyT z
        have hb4 := (rel3.im st4.fr) bk _ hbk rfl
        have sK4 := (sK.mono im4).put (k := kk) sv
        have imD : Im H4 (upd H4 D (.dT (putK kvs kk v4))) := fun a o q io => by rw [upd_ne (fun z => by subst z; rw [hD4] at q; cases q; cases io)]; exact q
        refine ⟨kvs, kk, bk, ebk, hb4, hD4, by omega, er2, blankF vs f4, putK kvs kk v4, _, hl2, ?_, t1.wrT hD4 ?_, ((stI.trans (Stp.ext same)).trans t2).wr hD, upd_same, sK4.mono imD⟩
        · have := length_putK kvs kk v4; omega
        · refine g.tm _ _ (fun a o q _ n => ?_) t1.tabs
          rw [upd_ne (fun z => by subst z; rw [hD4] at q; cases q; exact n.2 _ rfl)]; exact q
      · have ei : i = ds.length := by omega
        subst ei
        refine .inl ⟨src.walk.stops H' gd, ?_⟩
        obtain ⟨er, fr, kvs, ys1, hl, hac, relI, stI, hDI, sK⟩ := pv
        rw [List.drop_length] at hl
        simp only [dcLoop, R.ok.injEq, Prod.mk.injEq] at hl
        obtain ⟨e5, e6⟩ := hl
        subst e5; subst e6
        subst hc0
        obtain ⟨u1, u2⟩ := relL.unblank relI stI
        exact hf D ys1 H' _ rfl (u1.back rel1 u2) (st1.trans (u2.lent rel1)) (st1.old D hD) (.inr ⟨kvs, hDI, sK⟩)
    exact key
/-- a new dict is written no more -/
theorem frzK {pins : List (Addr × Obj)} {H : Hp} {s : Shared} {l : Addr} {kvs : List (Key × V)} (I : L2.Inv X pins σ H s) (h : H l = some (.dK kvs)) : ∃ o, L2.Inv X pins σ (upd H l (.frz o (.dK kvs))) s := by
  have ok := I.hok l _ h
  obtain ⟨hz, hm, vs, rel, dd⟩ := (show ObjOk X.prog X.w H s.heap l (.dK kvs) from ok)
  obtain ⟨o, es, ep, he, hx⟩ := dd
  refine ⟨o, ?_⟩
  have nb : ∀ b u, H b = some u → (∀ ys, u ≠ .dK ys) → b ≠ l := fun b u q n z => by subst z; rw [h] at q; cases q; exact n _ rfl
  exact I.un (H' := upd H l (.frz o (.dK kvs))) (h' := s.heap) (t' := s.toks)
    ⟨fun b ob q _ _ _ => q, fun b ob q _ _ _ => ⟨ob.slots, q⟩, fun b ob q n _ => by rw [upd_ne (fun z => by subst z; rw [h] at n; cases n)]; exact n, fun b ob q _ => ⟨ob, q⟩,
      fun b ys q => by rw [upd_ne (nb b _ q (fun ys z => by cases z))]; exact q, fun b ob ys q => by rw [upd_ne (nb b _ q (fun ys z => by cases z))]; exact q, fun b ys q => ⟨#[], by rw [upd_ne (nb b _ q (fun ys z => by cases z)), q]; simp⟩⟩
    (fun b u q => by
      by_cases hb : b = l
      · subst hb
        rw [upd_same] at q; cases q
        exact ⟨he, hz, hm, vs, rel, o, es, ep, he, hx⟩
      · rw [upd_ne hb] at q
        exact (I.hok b u q).stay (fun c v _ k => k) (fun c k => by rw [upd_ne (nb c _ k (fun ys z => by cases z))]; exact k) fun c ys k => by rw [upd_ne (nb c _ k (fun ys z => by cases z))]; exact k)
theorem frzT {pins : List (Addr × Obj)} {H : Hp} {s : Shared} {l : Addr} {kvs : List (List Key × V)} (I : L2.Inv X pins σ H s) (h : H l = some (.dT kvs)) : ∃ o, L2.Inv X pins σ (upd H l (.frz o (.dT kvs))) s := by
  have ok := I.hok l _ h
  obtain ⟨hz, hm, xs, rel, o, es, ep, he, hx⟩ := (show ObjOk X.prog X.w H s.heap l (.dT kvs) from ok)
  refine ⟨o, ?_⟩
  have nb : ∀ b u, H b = some u → (∀ ys, u ≠ .dT ys) → b ≠ l := fun b u q n z => by subst z; rw [h] at q; cases q; exact n _ rfl
  exact I.un (H' := upd H l (.frz o (.dT kvs))) (h' := s.heap) (t' := s.toks)
    ⟨fun b ob q _ _ _ => q, fun b ob q _ _ _ => ⟨ob.slots, q⟩, fun b ob q n _ => by rw [upd_ne (fun z => by subst z; rw [h] at n; cases n)]; exact n, fun b ob q _ => ⟨ob, q⟩,
      fun b ys q => by rw [upd_ne (nb b _ q (fun ys z => by cases z))]; exact q, fun b ob ys q => by rw [upd_ne (nb b _ q (fun ys z => by cases z))]; exact q, fun b ys q => ⟨#[], by rw [upd_ne (nb b _ q (fun ys z => by cases z)), q]; simp⟩⟩
    (fun b u q => by
      by_cases hb : b = l
      · subst hb
        rw [upd_same] at q; cases q
        exact ⟨he, hz, hm, xs, (show KT H kvs xs from rel).keeps fun c ys k => by rw [upd_ne (nb c _ k (fun ys z => by cases z))]; exact k, o, es, ep, he, hx⟩
      · rw [upd_ne hb] at q
        exact (I.hok b u q).stay (fun c v _ k => k) (fun c k => by rw [upd_ne (nb c _ k (fun ys z => by cases z))]; exact k) fun c ys k => by rw [upd_ne (nb c _ k (fun ys z => by cases z))]; exact k)
theorem ok_dfrz {a : Expr} {m1 : M Dt} (ha : PE X a (tD g c W m1)) : PE X a (tV g c W m1 .sh []) := by
  refine ⟨fun pins s σ H Q I h => ?_⟩
  obtain ⟨e, f, rel, h⟩ := h
  refine thn (ha.run pins s σ H (fun v H1 => ∃ D ds e1 f1, v = .ref D ∧ Rel g c e1 σ H1 f1 ∧ Stp c e H f e1 H1 f1 ∧ H D = none ∧ ((∃ kvs, H1 D = some (.dK kvs) ∧ ShK g.K H1 kvs ds) ∨ ∃ kvs, H1 D = some (.dT kvs) ∧ ShT g.K H1 kvs ds) ∧ finV g c .sh [] σ Q (.dict ds) e1 e H f) I
    ⟨e, f, rel, at_mono h fun d e1 h1 D ds H1 f1 ed rel1 st1 hD hK => ⟨D, ds, e1, f1, rfl, rel1, st1, hD, hK, by rw [← ed]; exact h1⟩⟩) fun u s1 ⟨v, H1, I1, rv, D, ds, e1, f1, ev, rel1, st1, hD, hK, h1⟩ => ?_
  have fin : ∀ (x y : HO) (I2 : L2.Inv X pins σ (upd H1 D y) s1), H1 D = some x → immO x = false → (∀ xs, x ≠ .lst xs) → ((∃ kvs, x = .dK kvs) ∨ ∃ kvs, x = .dT kvs) → Sh g.K (upd H1 D y) (.ref D) (.dict ds) → EP X pins σ Q u s1 := fun x y I2 hD1 im0 nl nt sh => by
    have im : Im H1 (upd H1 D y) := fun b u q i => by rw [upd_ne (fun z => by subst z; rw [hD1] at q; cases q; rw [im0] at i; cases i)]; exact q
    have nD : ∀ j, D ∉ f1 j := rel1.foot0 fun xs z => nl xs (by rw [hD1] at z; exact Option.some.inj z)
    have rel2 : Rel g c e1 σ (upd H1 D y) f1 := ⟨rel1.lenE, rel1.lenC, fun i sl h n => by
        obtain ⟨w, h1, h2⟩ := rel1.at_ i sl h n
        exact ⟨w, h1, h2.mono im fun b hb o q => by rw [upd_ne (fun z => nD i (by rw [← z]; exact hb))]; exact q⟩, rel1.free, rel1.dis, g.tm _ _ (fun b o q _ n => by
          rw [upd_ne (fun z => by
            subst z; rw [hD1] at q; cases q
            rcases nt with ⟨_, e⟩ | ⟨_, e⟩
            · exact n.1 _ e
            · exact n.2 _ e)]; exact q) rel1.tabs⟩
    rw [← ev] at sh
    exact ⟨v, _, I2, rv, h1 v _ f1 [] rel2 (st1.wr hD) ⟨.inl (.sh sh), fun _ => .sh sh, (fun _ z => by cases z), fun _ _ _ _ z => by cases z⟩⟩
  rcases hK with ⟨kvs, hD1, sK⟩ | ⟨kvs, hD1, sK⟩
  · obtain ⟨o, I2⟩ := frzK I1 hD1
    exact fin _ _ I2 hD1 rfl (fun _ z => by cases z) (.inl ⟨_, rfl⟩) (.dct upd_same (sK.mono fun b u q i => by rw [upd_ne (fun z => by subst z; rw [hD1] at q; cases q; cases i)]; exact q))
  · obtain ⟨o, I2⟩ := frzT I1 hD1
    exact fin _ _ I2 hD1 rfl (fun _ z => by cases z) (.inr ⟨_, rfl⟩) (.dcT upd_same (sK.mono fun b u q i => by rw [upd_ne (fun z => by subst z; rw [hD1] at q; cases q; cases i)]; exact q))
theorem ok_dct0 {p : Pos} : PE X (.Dict [] [] p) (tV g c W (mp (.dict [])) .sh []) := by
  refine ok_dfrz (PE.imp pe_dnewK fun σ H Q h => ?_)
  obtain ⟨e, f, rel, h⟩ := h
  have h : finD g c σ Q (.dict []) e e H f := h
  intro q hq
  have sm := same_upd (o := .dK []) hq
  exact h q [] _ f rfl (rel.ext sm (g.tm _ _ (fun a o q _ _ => sm a o q) rel.tabs)) (Stp.ext sm) hq (.inl ⟨[], upd_same, .nil⟩)
end
end VL


set_option Elab.async false
set_option linter.all false
set_option maxRecDepth 100000
set_option maxHeartbeats 1000000
/-! VL14: list(range(..)), tuple(range(..)); index, count. -/
namespace VL
open PySem PySem.Spec PyProof.Rows L2
section
variable {g : G} {c : Cn} {W : WX} {N : List Str} {sc fs : Scope} {lv : Nat} {X : Cx} {σ : L2.St} {m1 m2 : M Dt} {l1 : M (List Dt)} {a b : Expr} {q q2 q3 p : Pos}
theorem sh_rg {K : PySem.W.Frag} {H : Hp} {lo : Int} (n : Nat) : ShA K H ((List.range n).map fun i => V.int (lo + (i : Nat))) (rangeD lo n) := by
  have z : ∀ l : List Nat, ShA K H (l.map fun (i : Nat) => V.int (lo + (i : Int))) (l.map fun (i : Nat) => PyData.int (lo + (i : Int))) := by
    intro l
    induction l with
    | nil => exact .nil
    | cons x l ih => exact .cons (.int _) ih
  exact z _
def tRgA (ta : TA) : L2.St → Hp → (Int → Int → Hp → Prop) → Prop := fun σ H Q => ta σ H fun vs H1 => (∃ n, vs = [.int n] ∧ Q 0 n H1) ∨ ∃ i j, vs = [.int i, .int j] ∧ Q i j H1
theorem prg_a1 {t : TA} (hg : Gl X "range") (hm : X.mg "range" = none) (ha : PA X [a] t) (hs : starEach [a] X.env = [(false, eval a X.env)]) : PRg X (.Call (.Name "range" q2) [a] [] q3) (tRgA fun σ H Q => t σ H fun vs H1 => vs.length = 1 ∧ Q vs H1) := by
  intro pins s σ H Q I h
  refine Call_ (ld_blt I hg hm boot_range (PyProof.Rows.callWith_type1 (thn (ha.run q3 pins s σ H _ I h) fun us s1 ⟨vs, H1, I1, r1, q1⟩ => ?_) hs rfl))
  obtain ⟨hl, q1⟩ := q1
  rcases q1 with ⟨n, e, q1⟩ | ⟨i, j, e, _⟩
  · subst e
    cases r1 with
    | cons r rr =>
      cases rr
      obtain ⟨t, rfl⟩ := r
      exact call_range_1 ⟨_, 0, n, _, _, _, H1, rfl, IsRange.new _ _ _ _ _ _ _, I1.kept fun b u e => Heap.get?_push_of_some _ e, q1⟩
  · subst e; cases hl
theorem prg_a2 {t : TA} (hg : Gl X "range") (hm : X.mg "range" = none) (ha : PA X [a, b] t) (hs : starEach [a, b] X.env = [(false, eval a X.env), (false, eval b X.env)]) (hs2 : starEach [b] X.env = [(false, eval b X.env)]) : PRg X (.Call (.Name "range" q2) [a, b] [] q3) (tRgA fun σ H Q => t σ H fun vs H1 => vs.length = 2 ∧ Q vs H1) := by
  intro pins s σ H Q I h
  refine Call_ (ld_blt I hg hm boot_range (PyProof.Rows.callWith_type1 (thn (ha.run q3 pins s σ H _ I h) fun us s1 ⟨vs, H1, I1, r1, q1⟩ => ?_) (by rw [hs, hs2]) (by rw [hs2]; rfl)))
  obtain ⟨hl, q1⟩ := q1
  rcases q1 with ⟨n, e, q1⟩ | ⟨i, j, e, q1⟩
  · subst e; cases hl
  · subst e
    cases r1 with
    | cons r rr =>
      cases rr with
      | cons r' rr =>
        cases rr
        obtain ⟨t, rfl⟩ := r
        obtain ⟨t', rfl⟩ := r'
        exact call_range_2 ⟨_, i, j, _, _, _, H1, rfl, IsRange.new _ _ _ _ _ _ _, I1.kept fun b u e => Heap.get?_push_of_some _ e, q1⟩
def rgF (f : B1) : Bool := f == .list || f == .tuple
/-- what comes of it -/
theorem rg_h {n : Nat} {f : B1} {Q : VK} {H : Hp} (hn : n = 1 ∨ n = 2) (h1 : ∀ e ds e', l1 e = .ok (ds, e') → ds.length = n) (h : tV g c W (mb l1 fun xs => mo ((rangeOf xs).bind fun ds => apB1 f (.list ds))) f.ty [] σ H Q) :
    tRgA (fun σ H Q => tL g c W l1 .sh σ H fun vs H1 => vs.length = n ∧ Q vs H1) σ H fun lo hi H1 => RgOk lo hi ∧ ∀ d, apB1 f (.list (rangeD lo (hi - lo).toNat)) = some d → New g.K H1 Q f.ty d := by
  obtain ⟨e, f0, rel, h⟩ := h
  refine ⟨e, f0, rel, ?_⟩
  have h0 := at_abs h
  unfold at_ at h0 ⊢
  cases hq : l1 e with
  | err => rw [hq] at h0; exact h0
  | exc x xs => rw [hq] at h0; exact h0
  | ok r =>
    obtain ⟨ds, e1⟩ := r
    rw [hq] at h0
    intro vs H1 f1 A rel1 st1 r1 n1 x1
    have hl := h1 e ds e1 hq
    have h0 : at_ g c W (fun y e2 _ _ _ => finV g c f.ty [] σ Q y e2 e H f0) (mo ((rangeOf ds).bind fun ds => apB1 f (.list ds))) e1 f0 σ H := h0
    obtain ⟨d, hd, hf0⟩ := at_mo h0
    have hf : finV g c f.ty [] σ Q d e1 e H f0 := hf0
    clear hf0
    have fn := fin_new (T := f.ty) rel1 st1 hf
    refine ⟨by rw [r1.length]; exact hl, ?_⟩
    rcases hn with rfl | rfl
    · match ds, hl with
      | [d1], _ =>
        obtain ⟨v1, rfl, s1⟩ := r1.sh1
        simp only [Option.bind_eq_some_iff] at hd
        obtain ⟨rs, hr, hd⟩ := hd
        unfold rangeOf at hr
        split at hr
        · rename_i n heq
          cases heq
          split at hr
          · rename_i hi
            cases hr
            cases s1
            unfold inR at hi
            simp only [Bool.and_eq_true, decide_eq_true_eq] at hi
            refine .inl ⟨n, rfl, ⟨by omega, by omega, by omega, by omega, by simpa using hi.2⟩, fun d' e => ?_⟩
            simp only [Int.sub_zero] at e
            rw [hd] at e; cases e
            exact fn
          · cases hr
        · rename_i heq; cases heq
        · cases hr
    · match ds, hl with
      | [d1, d2], _ =>
        obtain ⟨v1, v2, rfl, s1, s2⟩ := r1.sh2
        simp only [Option.bind_eq_some_iff] at hd
        obtain ⟨rs, hr, hd⟩ := hd
        unfold rangeOf at hr
        split at hr
        · rename_i heq; cases heq
        · rename_i m n heq
          cases heq
          split at hr
          · rename_i hi
            cases hr
            cases s1; cases s2
            unfold inR at hi
            simp only [Bool.and_eq_true, decide_eq_true_eq] at hi
            refine .inr ⟨m, n, rfl, ⟨by omega, by omega, by omega, by omega, by omega⟩, fun d' e => ?_⟩
            rw [hd] at e; cases e
            exact fn
          · cases hr
        · cases hr
theorem tRgA_mono {t : TA} {Q Q' : Int → Int → Hp → Prop} {H : Hp} (hm : ∀ {P P' : List V → Hp → Prop}, (∀ vs H, P vs H → P' vs H) → t σ H P → t σ H P') (i : ∀ a b H, Q a b H → Q' a b H) (h : tRgA t σ H Q) : tRgA t σ H Q' := by
  refine hm (fun vs H h => ?_) h
  rcases h with ⟨n, e, q⟩ | ⟨a, b, e, q⟩
  · exact .inl ⟨n, e, i _ _ _ q⟩
  · exact .inr ⟨a, b, e, i _ _ _ q⟩
theorem tL_mono {T : Ty} {H : Hp} {P P' : List V → Hp → Prop} (i : ∀ vs H, P vs H → P' vs H) (h : tL g c W l1 T σ H P) : tL g c W l1 T σ H P' := by
  obtain ⟨e, f, rel, h⟩ := h
  exact ⟨e, f, rel, at_mono h fun ds e1 h1 vs H' f' A r s q n d => i _ _ (h1 vs H' f' A r s q n d)⟩
theorem ok_b1r {n : Nat} {f : B1} {es : List Expr} (hf : rgF f = true) (hn : n = 1 ∨ n = 2) (h1 : ∀ e ds e', l1 e = .ok (ds, e') → ds.length = n) (K : CxV g N sc lv W X) (hg : glB sc (Str.ofString f.name) = true)
    (he : PRg X (.Call (.Name "range" q2) es [] q3) (tRgA fun σ H Q => tL g c W l1 .sh σ H fun vs H1 => vs.length = n ∧ Q vs H1)) (na : starEach [.Call (.Name "range" q2) es [] q3] X.env = (false, eval (.Call (.Name "range" q2) es [] q3) X.env) :: starEach [] X.env) :
    PE X (.Call (.Name (Str.ofString f.name) q) [.Call (.Name "range" q2) es [] q3] [] p) (tV g c W (mb l1 fun xs => mo ((rangeOf xs).bind fun ds => apB1 f (.list ds))) f.ty []) := by
  have mono : ∀ {σ : L2.St} {H : Hp} {P P' : List V → Hp → Prop}, (∀ vs H, P vs H → P' vs H) → (tL g c W l1 .sh σ H fun vs H1 => vs.length = n ∧ P vs H1) → tL g c W l1 .sh σ H fun vs H1 => vs.length = n ∧ P' vs H1 := fun i h => tL_mono (fun vs H q => ⟨q.1, i vs H q.2⟩) h
  cases f <;> simp [rgF] at hf
  · refine PE.imp (pe_listRg K.calm (gl_of K hg) (K.bt _ (by simp)) he na) fun σ H Q hq => ?_
    exact tRgA_mono (fun {P P'} i h => mono i h) (fun lo hi H1 ⟨r, z⟩ => ⟨r, fun q hq => (z _ rfl).lst (sh_rg _) hq⟩) (rg_h hn h1 hq)
  · refine PE.imp (pe_tupRg K.calm (gl_of K hg) (K.bt _ (by simp)) he na) fun σ H Q hq => ?_
    exact tRgA_mono (fun {P P'} i h => mono i h) (fun lo hi H1 ⟨r, z⟩ => ⟨r, fun q hq => (z _ rfl).tup (sh_rg _) hq⟩) (rg_h hn h1 hq)
end
end VL


set_option Elab.async false
set_option linter.all false
set_option maxRecDepth 100000
set_option maxHeartbeats 1000000
/-! VL15: readings of statements. -/
namespace VL
open PySem PySem.Spec PyProof.Rows L2
/-- from one place in a body to another: the slots P are not touched -/
structure StpS (P : List Nat) (c : Cn) (e : Ev) (σ : L2.St) (H : Hp) (f : Ft) (c' : Cn) (e' : Ev) (σ' : L2.St) (H' : Hp) (f' : Ft) : Prop where
  fr : Fr c f H H'
  old : ∀ a, H' a = none → H a = none
  gro : ∀ i a, ownS (c'.getD i .no) = true → a ∈ f' i → H a = none ∨ (∃ j, ow1 (c.getD j .no) = true ∧ a ∈ f j) ∨ (refS (c'.getD i .no) = true ∧ a ∈ f i)
  kp : ∀ i ∈ P, c'[i]? = c[i]? ∧ f' i = f i ∧ e'.getD i .none = e.getD i .none ∧ σ'[i]? = σ[i]?
  rk : ∀ i, refS (c'.getD i .no) = true → c[i]? = c'[i]?
  len : c'.length = c.length
theorem ow1_own {s : Sl} (h : ow1 s = true) : ownS s = true := by cases s <;> simp [ow1, ownS] at h ⊢
theorem ref_own {s : Sl} (h : refS s = true) : ownS s = true := by cases s <;> simp [refS, ownS] at h ⊢
theorem own_cases {s : Sl} (h : ownS s = true) : ow1 s = true ∨ refS s = true := by cases s <;> simp [refS, ownS, ow1] at h ⊢
theorem ow1_ref {s : Sl} (h : ow1 s = true) : refS s = false := by cases s <;> simp [ow1, refS] at h ⊢
section
variable {g : G} {P : List Nat} {c c1 c2 c' cb : Cn} {W : WX} {rt : Ty} {e e1 e2 e' : Ev} {σ σ1 σ2 σ' : L2.St} {H H1 H2 H' : Hp} {f f1 f2 f' : Ft} {m m1 m2 : M Fl} {D : Ends}
theorem getD_cong {i : Nat} (h : c[i]? = c'[i]?) : c.getD i .no = c'.getD i .no := by rw [List.getD_eq_getElem?_getD, List.getD_eq_getElem?_getD, h]
theorem StpS.refl : StpS P c e σ H f c e σ H f :=
  ⟨fun _ _ h _ _ => h, fun _ h => h, fun i a o h => (own_cases o).elim (fun w => .inr (.inl ⟨i, w, h⟩)) fun r => .inr (.inr ⟨r, h⟩), fun _ _ => ⟨rfl, rfl, rfl, rfl⟩, fun _ _ => rfl, rfl⟩
theorem StpS.trans (a : StpS P c e σ H f c1 e1 σ1 H1 f1) (b : StpS P c1 e1 σ1 H1 f1 c2 e2 σ2 H2 f2) : StpS P c e σ H f c2 e2 σ2 H2 f2 := by
  refine ⟨fun x o h n nt => ?_, fun x h => a.old x (b.old x h), fun i x o h => ?_, fun i hi => ?_, fun i hi => ?_, b.len.trans a.len⟩
  · refine b.fr x o (a.fr x o h n nt) (fun i ho hm => ?_) nt
    rcases a.gro i x ho hm with z | ⟨j, hj, z⟩ | ⟨hr, z⟩
    · rw [h] at z; cases z
    · exact n j (ow1_own hj) z
    · exact n i (by rw [getD_cong (a.rk i hr)]; exact ho) z
  · rcases b.gro i x o h with z | ⟨j, hj, z⟩ | ⟨hr, z⟩
    · exact .inl (a.old x z)
    · rcases a.gro j x (ow1_own hj) z with y | y | ⟨y, _⟩
      · exact .inl y
      · exact .inr (.inl y)
      · rw [ow1_ref hj] at y; cases y
    · have e1 := getD_cong (b.rk i hr)
      rcases a.gro i x (by rw [e1]; exact o) z with y | y | ⟨_, y⟩
      · exact .inl y
      · exact .inr (.inl y)
      · exact .inr (.inr ⟨hr, y⟩)
  · obtain ⟨p1, p2, p3, p4⟩ := a.kp i hi
    obtain ⟨q1, q2, q3, q4⟩ := b.kp i hi
    exact ⟨q1.trans p1, q2.trans p2, q3.trans p3, q4.trans p4⟩
  · have z := b.rk i hi
    rw [← getD_cong z] at hi
    exact (a.rk i hi).trans z
/-- slots that are only looked at -/
def borS : Sl → Bool
  | .bor _ => true
  | _ => false
theorem bor_own {s : Sl} (h : borS s = true) : ownS s = false ∧ s ≠ .no := by cases s <;> simp [borS, ownS] at h ⊢
def POk (P : List Nat) (c : Cn) : Prop := ∀ i ∈ P, borS (c.getD i .no) = true
/-- an expression's step -/
theorem Stp.S (hP : POk P c) (s : Stp c e H f e1 H1 f1) : StpS P c e σ H f c e1 σ H1 f1 := by
  refine ⟨s.fr, s.old, fun i a o h => ?_, fun i hi => ?_, fun _ _ => rfl, rfl⟩
  · rcases s.gro i a o h with ⟨j, hj, z, w⟩ | z
    · rcases w with rfl | w
      · rcases own_cases hj with y | y
        · exact .inr (.inl ⟨j, y, z⟩)
        · exact .inr (.inr ⟨y, z⟩)
      · exact .inr (.inl ⟨j, w, z⟩)
    · exact .inl z
  · obtain ⟨h1, h2⟩ := bor_own (hP i hi)
    obtain ⟨k1, k2⟩ := s.keep i h1
    exact ⟨rfl, k1, k2 h2, rfl⟩
/-- less is known of the slots -/
def wkS : Sl → Sl → Bool
  | _, .no => true
  | a, b => a == b
def wkC (c c' : Cn) : Prop := c'.length = c.length ∧ ∀ i, c'.getD i .no = .no ∨ c'[i]? = c[i]?
theorem Rel.weak (r : Rel g c e σ H f) (w : wkC c c') : Rel g c' e σ H fun i => if c'.getD i .no = .no then [] else f i := by
  have k : ∀ i, c'.getD i .no ≠ .no → c'[i]? = c[i]? := fun i n => (w.2 i).resolve_left n
  refine ⟨r.lenE, by rw [w.1]; exact r.lenC, fun i sl h n => ?_, fun i h => by simp only [h, if_true], fun i j a hij ho h1 h2 => ?_, r.tabs⟩
  · have n' : c'.getD i .no ≠ .no := by rw [getD_eq h]; exact n
    rw [k i n'] at h
    obtain ⟨v, h1, h2⟩ := r.at_ i sl h n
    exact ⟨v, h1, by simp only [n', if_false]; exact h2⟩
  · have ni : c'.getD i .no ≠ .no := fun z => by rw [z] at ho; cases ho
    simp only [ni, if_false] at h1
    split at h2
    · cases h2
    · exact r.dis i j a hij (by rw [← getD_cong (k i ni)]; exact ho) h1 h2
theorem wk_stp (hP : POk P c') (w : wkC c c') : StpS P c e σ H f c' e σ H fun i => if c'.getD i .no = .no then [] else f i := by
  have k : ∀ i, c'.getD i .no ≠ .no → c'[i]? = c[i]? := fun i n => (w.2 i).resolve_left n
  refine ⟨fun _ _ h _ _ => h, fun _ h => h, fun i a o h => ?_, fun i hi => ?_, fun i hi => ?_, w.1⟩
  · have ni : c'.getD i .no ≠ .no := fun z => by rw [z] at o; cases o
    simp only [ni, if_false] at h
    have z := getD_cong (k i ni)
    rcases own_cases o with y | y
    · exact .inr (.inl ⟨i, by rw [← z]; exact y, h⟩)
    · exact .inr (.inr ⟨y, h⟩)
  · have ni := (bor_own (hP i hi)).2
    exact ⟨k i ni, by simp only [ni, if_false], rfl, rfl⟩
  · have ni : c'.getD i .no ≠ .no := fun z => by rw [z] at hi; cases hi
    exact (k i ni).symm
/-- a value handed back -/
structure RetS (g : G) (P : List Nat) (rt : Ty) (c : Cn) (e : Ev) (σ : L2.St) (H : Hp) (f : Ft) (e' : Ev) (H' : Hp) (f' : Ft) (v : V) (d : Dt) (A : List Addr) : Prop where
  ex : ∃ c' σ', Rel g c' e' σ' H' f' ∧ StpS P c e σ H f c' e' σ' H' f' ∧ ∀ k, refS (c.getD k .no) = true → c'[k]? = c[k]?
  rep : Rep g.K H' rt v d A
  new : ∀ a ∈ A, H a = none ∨ ∃ j, ow1 (c.getD j .no) = true ∧ a ∈ f j
  dis : ∀ k a, refS (c.getD k .no) = true → a ∈ A → a ∉ f' k
def endS (g : G) (W : WX) (rt : Ty) (P : List Nat) (c c' cb : Cn) (D : Ends) (e : Ev) (σ : L2.St) (H : Hp) (f : Ft) : R (Fl × Ev) → Prop
  | .ok (.nx, e') => ∀ σ' H' f', Rel g c' e' σ' H' f' → StpS P c e σ H f c' e' σ' H' f' → D.nx σ' H'
  | .ok (.br, e') => ∀ σ' H' f', Rel g cb e' σ' H' f' → StpS P c e σ H f cb e' σ' H' f' → D.bk σ' H'
  | .ok (.ct, e') => ∀ σ' H' f', Rel g cb e' σ' H' f' → StpS P c e σ H f cb e' σ' H' f' → D.ct σ' H'
  | .ok (.rt d, e') => ∀ v H' f' A, RetS g P rt c e σ H f e' H' f' v d A → D.rt v H'
  | .exc x xs => ∀ σ', Xst g c f W x xs σ' H
  | .err => False
def tS (g : G) (W : WX) (rt : Ty) (P : List Nat) (c c' cb : Cn) (m : M Fl) : TS := fun D σ H => ∃ e f, Rel g c e σ H f ∧ endS g W rt P c c' cb D e σ H f (m e)
theorem Xst.laterS {x : Str} {xs : List Dt} (h : Xst g c f W x xs σ' H) (s : StpS P c e σ H f c1 e1 σ1 H1 f1) : Xst g c1 f1 W x xs σ' H1 := fun cls dd H' a b o t =>
  h cls dd H' a (fun y ob q n nt => b y ob (s.fr y ob q n nt) (fun i ho hm => by
    rcases s.gro i y ho hm with z | ⟨j, hj, z⟩ | ⟨hr, z⟩
    · rw [q] at z; cases z
    · exact n j (ow1_own hj) z
    · exact n i (by rw [getD_cong (s.rk i hr)]; exact ho) z) nt) (fun y z => s.old y (o y z)) t
theorem RetS.before {v : V} {d : Dt} {A : List Addr} (s : StpS P c e σ H f c1 e1 σ1 H1 f1) (hk : ∀ k, refS (c.getD k .no) = true → c1[k]? = c[k]?) (r : RetS g P rt c1 e1 σ1 H1 f1 e' H' f' v d A) : RetS g P rt c e σ H f e' H' f' v d A := by
  obtain ⟨⟨c', σ', q1, q2, q3⟩, r2, r3, r4⟩ := r
  refine ⟨⟨c', σ', q1, s.trans q2, fun k hk' => ?_⟩, r2, fun a ha => ?_, fun k a hk' => r4 k a (by rw [getD_cong (hk k hk')]; exact hk')⟩
  · have z := hk k hk'
    rw [q3 k (by rw [getD_cong z]; exact hk'), z]
  · rcases r3 a ha with z | ⟨j, hj, z⟩
    · exact .inl (s.old a z)
    · rcases s.gro j a (ow1_own hj) z with y | y | ⟨y, _⟩
      · exact .inl y
      · exact .inr y
      · rw [ow1_ref hj] at y; cases y
/-- parameters that are changed in place stay so -/
def refK (c c' : Cn) : Prop := ∀ k, refS (c.getD k .no) = true → c'[k]? = c[k]?
theorem endS.before {r : R (Fl × Ev)} (s : StpS P c e σ H f c1 e1 σ1 H1 f1) (hk : refK c c1) (h : endS g W rt P c c' cb D e σ H f r) : endS g W rt P c1 c' cb D e1 σ1 H1 f1 r := by
  match r with
  | .ok (.nx, e') => exact fun σ' H' f' a b => h σ' H' f' a (s.trans b)
  | .ok (.br, e') => exact fun σ' H' f' a b => h σ' H' f' a (s.trans b)
  | .ok (.ct, e') => exact fun σ' H' f' a b => h σ' H' f' a (s.trans b)
  | .ok (.rt d, e') => exact fun v H' f' A a => h v H' f' A (a.before s hk)
  | .exc x xs => exact fun σ'' => (h σ'').laterS s
  | .err => exact h
theorem PS.imp {X : Cx} {s : Stmt} {t t' : TS} (h : PS X s t) (i : ∀ D σ H, t' D σ H → t D σ H) : PS X s t' := ⟨fun pins s σ H D I q => h.run pins s σ H D I (i D σ H q)⟩
theorem PSs.imp {X : Cx} {s : List Stmt} {t t' : TS} (h : PSs X s t) (i : ∀ D σ H, t' D σ H → t D σ H) : PSs X s t' := ⟨fun pins s σ H D I q => h.run pins s σ H D I (i D σ H q)⟩
section
variable {X : Cx} {s : Stmt} {ss : List Stmt}
theorem oks_nil : PSs X [] (tS g W rt P c c cb (mp .nx)) := PSs.imp pss_nil fun D σ H ⟨e, f, rel, h⟩ => (show endS g W rt P c c cb D e σ H f (.ok (.nx, e)) from h) σ H f rel .refl
theorem oks_cons (h1 : PS X s (tS g W rt P c c1 cb m1)) (h2 : PSs X ss (tS g W rt P c1 c' cb m2)) (hk : refK c c1) :
    PSs X (s :: ss) (tS g W rt P c c' cb (mb m1 fun f => match f with | .nx => m2 | g => mp g)) := by
  refine PSs.imp (pss_cons h1 h2) fun D σ H h => ?_
  obtain ⟨e, f, rel, h⟩ := h
  refine ⟨e, f, rel, ?_⟩
  unfold mb at h
  cases q : m1 e with
  | err => rw [q] at h; exact h
  | exc x xs => rw [q] at h; exact h
  | ok r =>
    obtain ⟨fl, e1⟩ := r
    rw [q] at h
    cases fl with
    | nx => exact fun σ1 H1 f1 r1 s1 => ⟨e1, f1, r1, endS.before s1 hk h⟩
    | br => exact h
    | ct => exact h
    | rt d => exact h
/-- a ghost in front -/
theorem oks_pre (h : PSs X ss (tS g W rt P c1 c' cb m)) (hk : refK c c1) (hP : POk P c1) (w : wkC c c1) : PSs X ss (tS g W rt P c c' cb m) := PSs.imp h fun D σ H ⟨e, f, rel, h⟩ =>
  ⟨e, _, rel.weak w, endS.before (wk_stp hP w) hk h⟩
theorem ok_pre (h : PS X s (tS g W rt P c1 c' cb m)) (hk : refK c c1) (hP : POk P c1) (w : wkC c c1) : PS X s (tS g W rt P c c' cb m) := PS.imp h fun D σ H ⟨e, f, rel, h⟩ =>
  ⟨e, _, rel.weak w, endS.before (wk_stp hP w) hk h⟩
theorem endS.weak {r : R (Fl × Ev)} (hP : POk P c') (w : wkC c1 c') (h : endS g W rt P c c' cb D e σ H f r) : endS g W rt P c c1 cb D e σ H f r := by
  match r with
  | .ok (.nx, e') => exact fun σ' H' f' a b => h σ' H' _ (a.weak w) (b.trans (wk_stp hP w))
  | .ok (.br, e') => exact h
  | .ok (.ct, e') => exact h
  | .ok (.rt d, e') => exact h
  | .exc x xs => exact h
  | .err => exact h
theorem oks_post (h : PSs X ss (tS g W rt P c c1 cb m)) (hP : POk P c') (w : wkC c1 c') : PSs X ss (tS g W rt P c c' cb m) := PSs.imp h fun D σ H ⟨e, f, rel, h⟩ => ⟨e, f, rel, endS.weak hP w h⟩
theorem ok_pas {p : Pos} : PS X (.Pass p) (tS g W rt P c c cb (mp .nx)) := PS.imp ps_pass fun D σ H ⟨e, f, rel, h⟩ => (show endS g W rt P c c cb D e σ H f (.ok (.nx, e)) from h) σ H f rel .refl
theorem ok_brk {p : Pos} (hk : refK c cb) (hP : POk P cb) (w : wkC c cb) : PS X (.Break p) (tS g W rt P c c' cb (mp .br)) := PS.imp ps_break fun D σ H ⟨e, f, rel, h⟩ =>
  (show endS g W rt P c c' cb D e σ H f (.ok (.br, e)) from h) σ H _ (rel.weak w) (wk_stp hP w)
theorem ok_cnt {p : Pos} (hk : refK c cb) (hP : POk P cb) (w : wkC c cb) : PS X (.Continue p) (tS g W rt P c c' cb (mp .ct)) := PS.imp ps_continue fun D σ H ⟨e, f, rel, h⟩ =>
  (show endS g W rt P c c' cb D e σ H f (.ok (.ct, e)) from h) σ H _ (rel.weak w) (wk_stp hP w)
end
end
end VL


set_option Elab.async false
set_option linter.all false
set_option maxRecDepth 100000
set_option maxHeartbeats 1000000
/-! VL16: statements. -/
namespace VL
open PySem PySem.Spec PyProof.Rows L2
section
variable {g : G} {N : List Str} {sc fs : Scope} {lv : Nat} {X : Cx} {P P' S1 : List Nat} {c c1 c2 c' cb cT : Cn} {W : WX} {rt T T1 : Ty} {e e1 e2 e' : Ev} {σ σ1 σ2 σ' : L2.St} {H H1 H2 H' : Hp} {f f1 f2 f' : Ft} {m mA mB : M Fl} {m1 : M Dt} {mc : M Bool} {D : Ends} {p q : Pos} {a : Expr} {i j : Nat} {TT : List Fn} {tg : Tg}
theorem at_S {α : Type} {mx : M α} {k : α → M Fl} (h : endS g W rt P c c' cb D e σ H f (mb mx k e)) : at_ g c W (fun d e1 e H f => endS g W rt P c c' cb D e σ H f (k d e1)) mx e f σ H := by
  unfold mb at h
  unfold at_
  cases q : mx e with
  | err => rw [q] at h; exact h
  | exc x xs => rw [q] at h; exact h σ
  | ok r => obtain ⟨x, e1⟩ := r; rw [q] at h; exact h
theorem ok_exp {S : List Nat} (hP : POk P c) (he : PE X a (tV g c W m1 T S)) (hs : swapsWith a none p.line X.env = pure false) : PS X (.Expr a p) (tS g W rt P c c cb (mb m1 fun _ => mp .nx)) := by
  refine PS.imp (ps_expr he hs) fun D σ H ⟨e, f, rel, h⟩ => ⟨e, f, rel, at_mono (at_S h) fun d e1 h1 v H1 f1 A r s _ => ?_⟩
  exact (show endS g W rt P c c cb D e σ H f (.ok (.nx, e1)) from h1) σ H1 f1 r (s.S hP)
/-! ### a name stored -/
theorem storeO {v : V} {d : Dt} {A : List Addr} (rel : Rel g c e σ H f) (hi : i < c.length) (r : Rep g.K H T v d A) (dis : ∀ a ∈ A, ∀ j, j ≠ i → a ∉ f j) : Rel g (c.set i (.own T)) (e.set i d) (σ.set i (some v)) H (upF f i A) := by
  refine ⟨by rw [List.length_set, List.length_set]; exact rel.lenE, by rw [List.length_set, List.length_set]; exact rel.lenC, fun j sl h n => ?_, fun j h => ?_, fun j k a hjk ho h1 h2 => ?_, rel.tabs⟩
  · rw [cset_get] at h
    by_cases hj : i = j
    · subst hj
      simp only [hi, and_self, if_true, Option.some.injEq] at h
      subst h
      refine ⟨v, by rw [List.getElem?_set_self (by rw [← rel.lenC]; exact hi)], ?_⟩
      rw [upF_same, setE_same (by rw [rel.lenE, ← rel.lenC]; exact hi)]
      exact r
    · simp only [hj, false_and, if_false] at h
      obtain ⟨w, h1, h2⟩ := rel.at_ j sl h n
      exact ⟨w, by rw [List.getElem?_set_ne hj]; exact h1, by rw [upF_ne (Ne.symm hj), setE_ne (Ne.symm hj)]; exact h2⟩
  · by_cases hj : i = j
    · subst hj
      rw [List.getD_eq_getElem?_getD, cset_get] at h
      simp [hi] at h
    · rw [upF_ne (Ne.symm hj)]
      refine rel.free j ?_
      rw [List.getD_eq_getElem?_getD, cset_get] at h
      simpa [hj] using h
  · by_cases hj : i = j
    · subst hj
      rw [upF_same] at h1
      rw [upF_ne (Ne.symm hjk)] at h2
      exact dis a h1 k (Ne.symm hjk) h2
    · rw [upF_ne (Ne.symm hj)] at h1
      have ho' : ownS (c.getD j .no) = true := by
        rw [List.getD_eq_getElem?_getD, cset_get] at ho
        simpa [hj] using ho
      by_cases hk : i = k
      · subst hk
        rw [upF_same] at h2
        exact dis a h2 j (Ne.symm hj) h1
      · rw [upF_ne (Ne.symm hk)] at h2
        exact rel.dis j k a hjk ho' h1 h2
theorem cset_getD {s : Sl} : (c.set i s).getD j .no = if i = j ∧ j < c.length then s else c.getD j .no := by
  rw [List.getD_eq_getElem?_getD, cset_get, List.getD_eq_getElem?_getD]
  split <;> rfl
theorem stpO {v : V} {d : Dt} {A : List Addr} (s : StpS P c e σ H f c1 e1 σ1 H1 f1) (hi : i < c1.length) (hP : i ∉ P) (nw : ∀ a ∈ A, H a = none ∨ ∃ j, ow1 (c.getD j .no) = true ∧ a ∈ f j) : StpS P c e σ H f (c1.set i (.own T)) (e1.set i d) (σ1.set i (some v)) H1 (upF f1 i A) := by
  refine ⟨s.fr, s.old, fun j a ho h => ?_, fun j hj => ?_, fun j hj => ?_, by rw [List.length_set]; exact s.len⟩
  · rw [cset_getD] at ho ⊢
    by_cases hj : i = j
    · subst hj
      rw [upF_same] at h
      exact (nw a h).imp id .inl
    · rw [upF_ne (Ne.symm hj)] at h
      simp only [hj, false_and, if_false] at ho ⊢
      exact s.gro j a ho h
  · have hj' : i ≠ j := fun z => hP (z ▸ hj)
    obtain ⟨k1, k2, k3, k4⟩ := s.kp j hj
    exact ⟨by rw [List.getElem?_set_ne hj']; exact k1, by rw [upF_ne (Ne.symm hj')]; exact k2, by rw [setE_ne (Ne.symm hj')]; exact k3, by rw [List.getElem?_set_ne hj']; exact k4⟩
  · rw [cset_getD] at hj
    by_cases hij : i = j
    · subst hij; simp [hi, refS] at hj
    · simp only [hij, false_and, if_false] at hj
      rw [List.getElem?_set_ne hij]
      exact s.rk j hj
theorem refK_set {s : Sl} (hr : refS (c.getD i .no) = false) : refK c (c.set i s) := fun k hk => by
  have z : i ≠ k := fun z => by subst z; rw [hr] at hk; cases hk
  rw [List.getElem?_set_ne z]
theorem res_off {v : V} {d : Dt} {A : List Addr} (rel : Rel g c e σ H f) (st : Stp c e H f e1 H1 f1) (r : Res g c [] T H H1 f1 v d A) : (∀ a ∈ A, H a = none) ∧ ∀ a ∈ A, ∀ j, a ∉ f1 j := by
  have n : ∀ a ∈ A, H a = none := fun a ha => by
    rcases r.new a ha with z | ⟨j, hj, _⟩
    · exact z
    · cases hj
  refine ⟨n, fun a ha j hm => ?_⟩
  cases q : ownS (c.getD j .no) with
  | true => exact r.dis j a q (by simp) ha hm
  | false =>
    rw [(st.keep j q).1] at hm
    obtain ⟨xs, z⟩ := rel.foot j a hm
    rw [n a ha] at z; cases z
theorem set_h (hP : POk P c) (hi : i < c.length) (hiP : i ∉ P) (h : tS g W rt P c (c.set i (.own T)) cb (mb m1 fun x => fun e => .ok (.nx, e.set i x)) D σ H) : tAsg (tV g c W m1 T []) (gName i) D σ H := by
  obtain ⟨e, f, rel, h⟩ := h
  refine ⟨e, f, rel, at_mono (at_S h) fun d e1 h1 v H1 f1 A r s res => ?_⟩
  obtain ⟨n, o⟩ := res_off rel s res
  exact (show endS g W rt P c (c.set i (.own T)) cb D e σ H f (.ok (.nx, e1.set i d)) from h1) _ H1 _ (storeO r hi (res.rep rfl) fun a ha j _ => o a ha j) (stpO (s.S hP) hi hiP fun a ha => .inl (n a ha))
theorem ok_set {x : Str} (K : CxV g N sc lv W X) (F : FnV fs X) (hP : POk P c) (hi : i < c.length) (hiP : i ∉ P) (hN : N[i]? = some x) (hl : locB fs sc x = true) (he : PE X a (tV g c W m1 T [])) (hs : swapsWith a (some (.Name x q)) p.line X.env = pure false) :
    PS X (.Assign [.Name x q] a p) (tS g W rt P c (c.set i (.own T)) cb (mb m1 fun x => fun e => .ok (.nx, e.set i x))) := by
  obtain ⟨h1, h2⟩ := loc_of F hl
  exact PS.imp (ps_set (by rw [K.hN]; exact K.hnd) (by rw [K.hN]; exact hN) (by rw [K.hsc]; exact h1) he hs (by rw [K.hsc]; exact h2)) fun D σ H h => set_h hP hi hiP h
/-! ### return -/
theorem ok_ret (hP : POk P c) (he : PE X a (tV g c W m1 rt [])) : PS X (.Return (some a) p) (tS g W rt P c c' cb (mb m1 fun x => mp (.rt x))) := by
  refine PS.imp (ps_ret he) fun D σ H ⟨e, f, rel, h⟩ => ⟨e, f, rel, at_mono (at_S h) fun d e1 h1 v H1 f1 A r s res => ?_⟩
  obtain ⟨n, o⟩ := res_off rel s res
  exact (show endS g W rt P c c' cb D e σ H f (.ok (.rt d, e1)) from h1) v H1 f1 A ⟨⟨c, σ, r, s.S hP, fun _ _ => rfl⟩, res.rep rfl, fun a ha => .inl (n a ha), fun k a _ ha => o a ha k⟩
/-- an own thing handed back -/
theorem ok_retv {x : Str} (K : CxV g N sc lv W X) (hc : c[i]? = some (.own rt)) (hN : N[i]? = some x) (hv : visB sc x = true) (hx : nmB x = true) :
    PS X (.Return (some (.Name x q)) p) (tS g W rt P c c' cb (mb (fun e => .ok (e.getD i .none, e)) fun x => mp (.rt x))) := by
  unfold nmB at hx
  simp only [Bool.and_eq_true, Bool.not_eq_true'] at hx
  refine PS.imp (ps_ret (pe_var (i := i) (by rw [K.hN]; exact hN) (by rw [K.hsc]; exact vis_of hv) hx.1 hx.2)) fun D σ H ⟨e, f, rel, h⟩ => ?_
  obtain ⟨v, h1, h2⟩ := rel.at_ i _ hc (by intro z; cases z)
  have h : endS g W rt P c c' cb D e σ H f (.ok (.rt (e.getD i .none), e)) := h
  refine ⟨v, h1, h v H f (f i) ⟨⟨c, σ, rel, .refl, fun _ _ => rfl⟩, h2, fun a ha => .inr ⟨i, by rw [getD_eq hc]; rfl, ha⟩, fun k a hk ha hm => ?_⟩⟩
  have z : i ≠ k := fun z => by subst z; rw [getD_eq hc] at hk; cases hk
  exact rel.dis i k a z (by rw [getD_eq hc]; rfl) ha hm
/-! ### if -/
theorem ok_if {t : Expr} {sa sb : List Stmt} (hP : POk P c) (hc : PT X t (tT g c W mc)) (ha : PSs X sa (tS g W rt P c c' cb mA)) (hb : PSs X sb (tS g W rt P c c' cb mB)) :
    PS X (.If t sa sb p) (tS g W rt P c c' cb (mb mc fun k => match k with | true => mA | false => mB)) := by
  refine PS.imp (ps_if hc ha hb) fun D σ H ⟨e, f, rel, h⟩ => ⟨e, f, rel, at_mono (at_S h) fun k e1 h1 H1 f1 r s => ?_⟩
  cases k with
  | true => exact iteT ⟨e1, f1, r, endS.before (s.S hP) (fun _ _ => rfl) h1⟩
  | false => exact iteF ⟨e1, f1, r, endS.before (s.S hP) (fun _ _ => rfl) h1⟩
/-! ### while -/
theorem ok_while {t : Expr} {sb : List Stmt} (hp : PassesOwn (model X.prog X.w) X.A X.env X.xe) (hP : POk P c) (hc : PT X t (tT g c W mc)) (hb : PSs X sb (tS g W rt P c c c mB)) :
    PS X (.While t sb [] p) (tS g W rt P c c cb (fun e => whlLoop mc mB whlFuel e)) := by
  refine PS.imp (ps_while hp hc hb) fun D σ H ⟨e, f, rel, h⟩ => ?_
  refine ⟨fun n σ1 H1 => ∃ e1 f1, Rel g c e1 σ1 H1 f1 ∧ endS g W rt P c c cb D e1 σ1 H1 f1 (whlLoop mc mB n e1), ⟨whlFuel, e, f, rel, h⟩, ?_⟩
  rintro n σ1 H1 ⟨e1, f1, rel1, h1⟩
  refine ⟨e1, f1, rel1, ?_⟩
  cases n with
  | zero => exact h1.elim
  | succ n =>
    unfold whlLoop at h1
    unfold at_
    cases q : mc e1 with
    | err => rw [q] at h1; exact h1.elim
    | exc x xs => rw [q] at h1; exact h1 σ1
    | ok r =>
      obtain ⟨k, e2⟩ := r
      rw [q] at h1
      intro H2 f2 rel2 st2
      have s2 := st2.S (σ := σ1) hP
      cases k with
      | false => exact iteF ((show endS g W rt P c c cb D e1 σ1 H1 f1 (.ok (.nx, e2)) from h1) σ1 H2 f2 rel2 s2)
      | true =>
        simp only at h1
        refine iteT ⟨_, fun σ' H' z => ⟨n, Nat.lt_succ_self n, z⟩, e2, f2, rel2, ?_⟩
        cases q2 : mB e2 with
        | err => rw [q2] at h1; exact h1.elim
        | exc x xs => rw [q2] at h1; exact fun σ'' => (h1 σ'').laterS s2
        | ok r =>
          obtain ⟨fl, e3⟩ := r
          rw [q2] at h1
          cases fl with
          | nx => exact fun σ' H' f' r' s' => ⟨e3, f', r', endS.before (s2.trans s') (fun _ _ => rfl) h1⟩
          | ct => exact fun σ' H' f' r' s' => ⟨e3, f', r', endS.before (s2.trans s') (fun _ _ => rfl) h1⟩
          | br => exact fun σ' H' f' r' s' => (show endS g W rt P c c cb D e1 σ1 H1 f1 (.ok (.nx, e3)) from h1) σ' H' f' r' (s2.trans s')
          | rt d => exact fun v H' f' A r' => (show endS g W rt P c c cb D e1 σ1 H1 f1 (.ok (.rt d, e3)) from h1) v H' f' A (r'.before s2 fun _ _ => rfl)
/-! ### raise X() -/
theorem pmk_own0 {C : Addr} {bmB : List Value} {B newId initId : String} {x : Str} (F : ExcBaseFacts B newId initId bmB) (qx : PySem.W.excIn X.K C bmB newId = true) (gC : X.mg x = some (.ref C)) (kC : PySem.W.keepIn X.K (.ref C) = true) (r : Raises X (.ref C)) (hg : Gl X x) (hdb : (x == ("__debug__" : Str)) = false) :
    PMk X (.Call (.Name x q) [] [] p) (fun _ H Q => Q (.ref C) none H) := by
  intro pins s σ H Q I h
  refine wpAny_Call_Name_kw (ld_glob I hg gC ?_ hdb)
  refine PySem.W.callWith_K0 I.kIn kC ?_
  show wpAny _ _ (call (.ref C) []) _ _ _
  obtain ⟨bm, N, nm, qn, bs, hdct, sn, sub, ab, col, dd, k0, k1, k2, k3, k5, mN, hC, hN, hni, T⟩ := exc_obj I.kIn qx
  refine wpAny_call_exc_subT F T hC hN hni (fun h' e hm => ?_) (by show 0 ≤ sizeLine; exact Nat.zero_le _)
  exact mk_of I hm r h (I.hok.gone hm.new)
theorem ok_rai {C : Addr} {bmB : List Value} {B newId initId : String} {x : Str} {q2 : Pos} (K : CxV g N sc lv W X) (F : ExcBaseFacts B newId initId bmB) (qx : PySem.W.excIn X.K C bmB newId = true) (gC : X.mg x = some (.ref C)) (kC : PySem.W.keepIn X.K (.ref C) = true) (r : Raises X (.ref C)) (hg : glB sc x = true) (hdb : (x == ("__debug__" : Str)) = false)
    (hx : ∀ H, g.exc x [] (.ref C) none H) : PS X (.Raise (some (.Call (.Name x q) [] [] q2)) none p) (tS g W rt P c c' cb (fun _ => .exc x [])) := by
  refine PS.imp (ps_raise K.calm K.takes (pmk_own0 F qx gC kC r (gl_of K hg) hdb)) fun D σ H ⟨e, f, rel, h⟩ => ?_
  exact (show endS g W rt P c c' cb D e σ H f (.exc x []) from h) σ (.ref C) none H (hx H) (fun _ _ h _ _ => h) (fun _ h => h) rel.tabs
end
end VL


set_option Elab.async false
set_option linter.all false
set_option maxRecDepth 100000
set_option maxHeartbeats 1000000
/-! VL17: for. -/
namespace VL
open PySem PySem.Spec PyProof.Rows L2
section
variable {g : G} {N : List Str} {sc fs : Scope} {lv : Nat} {X : Cx} {P P' S1 : List Nat} {c c1 c2 c' cb cT : Cn} {W : WX} {rt T T1 : Ty} {e e1 e2 e' : Ev} {σ σ1 σ2 σ' : L2.St} {H H1 H2 H' : Hp} {f f1 f2 f' : Ft} {m mA mB : M Fl} {mi : M (List Dt)} {D : Ends} {p q : Pos} {a : Expr} {i j : Nat} {TT : List Fn} {tg : Tg}
/-- what is lent: owned here, not a parameter that is changed in place -/
def LendOk (c : Cn) (S : List Nat) : Prop := ∀ i ∈ S, refS (c.getD i .no) = false
theorem lend_off' (h : i ∉ S1) : (lend c S1)[i]? = c[i]? := by rw [lend_get]; cases c[i]? <;> simp [h]
theorem lend_ref (hr : refS ((lend c S1).getD i .no) = true) : i ∉ S1 ∧ (lend c S1)[i]? = c[i]? := by
  have z := (lend_own (ref_own hr)).1
  exact ⟨z, lend_off' z⟩
theorem lend_ow1 (hr : ow1 ((lend c S1).getD i .no) = true) : i ∉ S1 ∧ ow1 (c.getD i .no) = true := by
  have z := (lend_own (ow1_own hr)).1
  rw [lend_getD, if_neg z] at hr
  exact ⟨z, hr⟩
theorem lend_bor (h : borS (c.getD i .no) = true) : (lend c S1)[i]? = c[i]? := by
  rw [lend_get]
  cases q : c[i]? with
  | none => rfl
  | some s =>
    rw [getD_eq q] at h
    cases s <;> simp [borS] at h
    by_cases hi : i ∈ S1 <;> simp [hi, lend1]
theorem lend_len : (lend c S1).length = c.length := by unfold lend; rw [List.length_mapIdx]
/-- a step in a loop, told of the slots ahead of the lending -/
theorem StpS.unlend (hP : POk P c) (hPP : ∀ i ∈ P, i ∈ P') (s : StpS P' (lend c S1) e σ H f c' e' σ' H' f') : StpS P c e σ H f c' e' σ' H' f' := by
  refine ⟨s.fr.lent, s.old, fun i a ho h => ?_, fun i hi => ?_, fun i hi => ?_, s.len.trans lend_len⟩
  · rcases s.gro i a ho h with z | ⟨j, hj, z⟩ | z
    · exact .inl z
    · exact .inr (.inl ⟨j, (lend_ow1 hj).2, z⟩)
    · exact .inr (.inr z)
  · obtain ⟨k1, k2, k3, k4⟩ := s.kp i (hPP i hi)
    exact ⟨k1.trans (lend_bor (hP i hi)), k2, k3, k4⟩
  · have z := s.rk i hi
    have z2 := lend_ref (c := c) (S1 := S1) (i := i) (by rw [getD_cong z]; exact hi)
    exact z2.2.symm.trans z
/-- back in the loop's own place -/
theorem Rel.backS (r : Rel g (VL.lend c S1) e' σ' H' f') (r1 : Rel g c e1 σ H1 f1) (hS : ∀ i ∈ S1, i ∈ P') (hB : ∀ i, borS ((VL.lend c S1).getD i .no) = true → i ∈ P') (s : StpS P' (VL.lend c S1) e1 σ H1 f1 (VL.lend c S1) e' σ' H' f') : Rel g c e' σ' H' f' := by
  have im : Im H1 H' := (r1.lend S1).im s.fr
  refine ⟨r.lenE, by rw [← lend_len (S1 := S1)]; exact r.lenC, fun i sl h n => ?_, fun i h => ?_, fun i j a hij ho h1 h2 => ?_, r.tabs⟩
  · by_cases hi : i ∈ S1
    · obtain ⟨v, h1, h2⟩ := r1.at_ i sl h n
      obtain ⟨_, k2, k3, k4⟩ := s.kp i (hS i hi)
      refine ⟨v, by rw [k4]; exact h1, ?_⟩
      rw [k2, k3]
      refine h2.mono im fun a ha o q => s.fr a o q (fun j hj hm => ?_) fun ps z => ?_
      · exact r1.dis j i a (fun z => (lend_own hj).1 (z ▸ hi)) (lend_own hj).2 hm ha
      · obtain ⟨xs, q'⟩ := r1.foot i a ha
        rw [z, q'] at q; cases q
    · exact r.at_ i sl (by rw [lend_off' hi]; exact h) n
  · refine r.free i ?_
    rw [lend_getD, h]; split <;> rfl
  · by_cases hi : i ∈ S1
    · rw [(s.kp i (hS i hi)).2.1] at h1
      by_cases hj : ownS ((VL.lend c S1).getD j .no) = true
      · rcases s.gro j a hj h2 with z | ⟨k, hk, z⟩ | ⟨hr, z⟩
        · obtain ⟨xs, q⟩ := r1.foot i a h1
          rw [z] at q; cases q
        · obtain ⟨k1, k2⟩ := lend_ow1 hk
          exact r1.dis k i a (fun y => k1 (y ▸ hi)) (ow1_own k2) z h1
        · exact r1.dis i j a hij ho h1 z
      · by_cases hn : (VL.lend c S1).getD j .no = .no
        · rw [r.free j hn] at h2; cases h2
        · have hb : borS ((VL.lend c S1).getD j .no) = true := by
            cases q : (VL.lend c S1).getD j .no <;> rw [q] at hj hn <;> simp [ownS, borS] at hj hn ⊢
          rw [(s.kp j (hB j hb)).2.1] at h2
          exact r1.dis i j a hij ho h1 h2
    · exact r.dis i j a hij (lend_own' hi ho) h1 h2
theorem StpS.back (hP : POk P c) (hPP : ∀ i ∈ P, i ∈ P') (hS : ∀ i ∈ S1, i ∈ P') (s : StpS P' (lend c S1) e σ H f (lend c S1) e' σ' H' f') : StpS P c e σ H f c e' σ' H' f' := by
  have u := s.unlend hP hPP
  refine ⟨u.fr, u.old, fun i a ho h => ?_, fun i hi => ⟨rfl, (u.kp i hi).2⟩, fun _ _ => rfl, rfl⟩
  by_cases hi : i ∈ S1
  · rw [(s.kp i (hS i hi)).2.1] at h
    rcases own_cases ho with z | z
    · exact .inr (.inl ⟨i, z, h⟩)
    · exact .inr (.inr ⟨z, h⟩)
  · rcases u.gro i a (lend_own' hi ho) h with z | z | ⟨z1, z2⟩
    · exact .inl z
    · exact .inr (.inl z)
    · refine .inr (.inr ⟨?_, z2⟩)
      rw [lend_getD, if_neg hi] at z1; exact z1
theorem RetS.unlend {v : V} {d : Dt} {A : List Addr} (hP : POk P c) (hPP : ∀ i ∈ P, i ∈ P') (hL : LendOk c S1) (r : RetS g P' rt (lend c S1) e σ H f e' H' f' v d A) : RetS g P rt c e σ H f e' H' f' v d A := by
  obtain ⟨⟨c', σ', q1, q2, q3⟩, r2, r3, r4⟩ := r
  have off : ∀ k, refS (c.getD k .no) = true → k ∉ S1 := fun k hk z => by rw [hL k z] at hk; cases hk
  have same : ∀ k, refS (c.getD k .no) = true → refS ((lend c S1).getD k .no) = true := fun k hk => by rw [lend_getD, if_neg (off k hk)]; exact hk
  refine ⟨⟨c', σ', q1, q2.unlend hP hPP, fun k hk => ?_⟩, r2, fun a ha => ?_, fun k a hk => r4 k a (same k hk)⟩
  · rw [q3 k (same k hk), lend_off' (off k hk)]
  · exact (r3 a ha).imp id fun ⟨j, hj, z⟩ => ⟨j, (lend_ow1 hj).2, z⟩
mutual
theorem stC_noref : ∀ (tg : Tg) {t : Ty} {c : Cn} {j : Nat}, j ∈ tgIx tg → refS ((stC t tg c).getD j .no) = false
  | .nm x i p, t, c, j, h => by
    simp only [tgIx, List.mem_singleton] at h
    subst h
    simp only [stC]
    rw [cset_getD]
    by_cases hl : j < c.length
    · simp only [hl, and_self, if_true]; cases t <;> rfl
    · rw [if_neg (by simp [hl]), List.getD_eq_getElem?_getD, List.getElem?_eq_none (by omega)]; rfl
  | .tp ts p, t, c, j, h => by simp only [stC]; exact stCs_noref ts (by simpa only [tgIx] using h)
  | .at b, t, c, j, h => by simp [tgIx] at h
theorem stCs_noref : ∀ (ts : Tgs) {c : Cn} {j : Nat}, j ∈ tgIxs ts → refS ((stCs ts c).getD j .no) = false
  | .nil, c, j, h => by simp [tgIxs] at h
  | .cons t r, c, j, h => by
    simp only [stCs]
    by_cases hm : j ∈ tgIxs r
    · exact stCs_noref r hm
    · rw [getD_cong (stCs_off r hm)]
      simp only [tgIxs, List.mem_append] at h
      exact stC_noref t (h.resolve_right hm)
end
mutual
theorem bnd_noexc : ∀ (tg : Tg) {c : Cn} {d : Dt} {e : Ev} {x : Str} {xs : List Dt}, tgOk fs sc N c tg = true → bnd TT tg d e ≠ .exc x xs
  | .nm _ _ _, c, d, e, x, xs, _, h => by simp [bnd] at h
  | .tp ts p, c, d, e, x, xs, ok, h => by
    simp only [bnd, mb, mo] at h
    cases q : tupOf d with
    | none => rw [q] at h; cases h
    | some ys => rw [q] at h; exact bnds_noexc ts (by simpa only [tgOk] using ok) h
  | .at b, c, d, e, x, xs, ok, h => by simp [tgOk] at ok
theorem bnds_noexc : ∀ (ts : Tgs) {c : Cn} {ds : List Dt} {e : Ev} {x : Str} {xs : List Dt}, tgsOk fs sc N c ts = true → bnds TT ts ds e ≠ .exc x xs
  | .nil, c, [], e, x, xs, _, h => by simp [bnds, mp] at h
  | .nil, c, _ :: _, e, x, xs, _, h => by simp [bnds] at h
  | .cons t r, c, [], e, x, xs, _, h => by simp [bnds] at h
  | .cons t r, c, d :: ds, e, x, xs, ok, h => by
    simp only [tgsOk, Bool.and_eq_true] at ok
    simp only [bnds, mb] at h
    cases q : bnd TT t d e with
    | err => rw [q] at h; cases h
    | exc y ys => exact bnd_noexc t ok.1 q
    | ok r' =>
      obtain ⟨⟨⟩, e1⟩ := r'
      rw [q] at h
      exact bnds_noexc r ok.2 h
end
/-- the target stored -/
theorem sto_stp {t : Ty} (hPt : ∀ j ∈ tgIx tg, j ∉ P) (sto : Sto (tgIx tg) e e' σ σ' f f') (parts : ∀ j ∈ tgIx tg, ownS ((stC t tg c).getD j .no) = true → f' j = []) : StpS P c e σ H f (stC t tg c) e' σ' H f' := by
  have off : ∀ j, j ∉ tgIx tg → (stC t tg c)[j]? = c[j]? := fun j hj => stC_off tg hj
  refine ⟨fun _ _ h _ _ => h, fun _ h => h, fun j a ho h => ?_, fun j hj => ?_, fun j hj => ?_, stC_len tg⟩
  · by_cases hj : j ∈ tgIx tg
    · rw [parts j hj ho] at h; cases h
    · rw [(sto.off j hj).1] at h
      have z := getD_cong (off j hj)
      rcases own_cases ho with y | y
      · exact .inr (.inl ⟨j, by rw [← z]; exact y, h⟩)
      · exact .inr (.inr ⟨y, h⟩)
  · have hj' : j ∉ tgIx tg := fun z => hPt j z hj
    exact ⟨off j hj', sto.off j hj'⟩
  · by_cases hm : j ∈ tgIx tg
    · exact absurd hj (by rw [stC_noref tg hm]; simp)
    · exact (off j hm).symm
theorem ok_for {it : Expr} {sb : List Stmt} (K : CxV g N sc lv W X) (F : FnV fs X) (hp : PassesOwn (model X.prog X.w) X.A X.env X.xe) (hP : POk P c) (hi : PI X (pyt tg) it (tI g c W mi T1 S1)) (htg : tgOk fs sc N (lend c S1) tg = true) (ht : T1 = .sh ∨ ∃ x i p, tg = .nm x i p)
    (hno : ∀ j ∈ tgIx tg, (lend c S1).getD j .no = .no) (hL : LendOk c S1) (hPP : ∀ i ∈ P, i ∈ P') (hS : ∀ i ∈ S1, i ∈ P') (hP' : POk P' (lend c S1)) (hB : ∀ i, borS ((lend c S1).getD i .no) = true → i ∈ P')
    (hb : PSs X sb (tS g W rt P' (stC T1 tg (lend c S1)) (lend c S1) (lend c S1) mB)) (hf : ∀ x, foldedSetIterable it X.env x = pure x) :
    PS X (.For (pyt tg) it sb [] p) (tS g W rt P c c cb (mb mi fun xs => forLoop (fun x => mb (bnd TT tg x) fun _ => mB) xs)) := by
  refine PS.imp (ps_for hp K.calm hi (pg_tg K F tg htg) hb hf) fun D σ H ⟨e, f, rel, h⟩ => ?_
  refine ⟨e, f, rel, at_mono (at_S h) fun ds e1 h1 J H1 f1 A rel1 st1 src => ?_⟩
  have hres0 := endS.before (st1.S (σ := σ) hP) (fun _ _ => rfl) h1
  clear h1 h
  have relL := rel1.lend S1
  obtain ⟨R0, hR0⟩ : ∃ R0, R0 = forLoop (fun x => mb (bnd TT tg x) fun _ => mB) ds e1 := ⟨_, rfl⟩
  have hres : endS g W rt P c c cb D e1 σ H1 f1 R0 := by rw [hR0]; exact hres0
  clear hres0
  have hPt : ∀ j ∈ tgIx tg, j ∉ P' := fun j hj z => by have := hP' j z; rw [hno j hj] at this; cases this
  rw [K.hK]
  refine for_it src.walk (fun i σ' H' => ∃ e' f', forLoop (fun x => mb (bnd TT tg x) fun _ => mB) (ds.drop i) e' = R0 ∧ Rel g (lend c S1) e' σ' H' f' ∧ StpS P' (lend c S1) e1 σ H1 f1 (lend c S1) e' σ' H' f') ⟨e1, f1, hR0.symm, relL, .refl⟩ ?_ ?_ ?_
  · rintro i σ' H' hi ⟨e', f', _, relI, stI⟩
    refine ⟨relL.im stI.fr, fun a ha o q => stI.fr a o q (fun j hj hm => ?_) fun ps z => ?_⟩
    · obtain ⟨h2, h3⟩ := lend_own hj
      exact src.dis j a h3 h2 ha hm
    · obtain ⟨xs, q'⟩ := src.foot a ha
      rw [z, q'] at q; cases q
  · rintro i x σ' H' H'' hi ⟨e', f', hl, relI, stI⟩ ⟨same, d, B0, hd, rv, hB0⟩
    rw [List.drop_eq_getElem_cons hi] at hl
    have ed : ds[i] = d := by simpa [hi] using hd
    rw [ed] at hl
    unfold forLoop at hl
    have dis0 : ∀ a ∈ B0, ∀ j, ownS ((lend c S1).getD j .no) = true → a ∉ f' j := fun a ha j hj hm => by
      obtain ⟨h2, h3⟩ := lend_own hj
      rcases stI.gro j a hj hm with z | ⟨k, hk, z⟩ | ⟨_, z⟩
      · obtain ⟨xs, q⟩ := src.foot a (hB0 a ha)
        rw [z] at q; cases q
      · obtain ⟨k1, k2⟩ := lend_ow1 hk
        exact src.dis k a (ow1_own k2) k1 (hB0 a ha) z
      · exact src.dis j a h3 h2 (hB0 a ha) z
    cases hbn : bnd TT tg d e' with
    | err =>
      exfalso
      simp only [mb, hbn] at hl
      rw [← hl] at hres; exact hres
    | exc x xs => exact absurd hbn (bnd_noexc tg htg)
    | ok q =>
      obtain ⟨⟨⟩, e2⟩ := q
      refine bnd_h tg (t := T1) (c := lend c S1) (B := B0) (f := f') htg ht (relI.ext same (g.tm _ _ (fun a o q _ _ => same a o q) relI.tabs)) rv dis0 hbn fun σ2 f2 r2 s2 p2 => ?_
      have ss : StpS P' (lend c S1) e1 σ H1 f1 (stC T1 tg (lend c S1)) e2 σ2 H'' f2 := (stI.trans ((Stp.ext same).S hP')).trans (sto_stp hPt s2 fun j hj => (p2 j hj).2)
      have hrk : refK (lend c S1) (stC T1 tg (lend c S1)) := fun k hk => stC_off tg fun z => by rw [hno k z] at hk; cases hk
      refine ⟨e2, f2, r2, ?_⟩
      simp only [mb, hbn] at hl
      cases hm : mB e2 with
      | err => rw [hm] at hl; rw [← hl] at hres; exact hres
      | exc x xs =>
        rw [hm] at hl
        simp only at hl
        rw [← hl] at hres
        exact fun σ'' => (hres σ'').laterS (ss.unlend hP hPP)
      | ok r =>
        obtain ⟨fl, e3⟩ := r
        rw [hm] at hl
        cases fl with
        | nx => exact fun σ4 H4 f4 r4 s4 => ⟨e3, f4, hl, r4, ss.trans s4⟩
        | ct => exact fun σ4 H4 f4 r4 s4 => ⟨e3, f4, hl, r4, ss.trans s4⟩
        | br =>
          simp only at hl
          rw [← hl] at hres
          exact fun σ4 H4 f4 r4 s4 => hres σ4 H4 f4 (r4.backS rel1 hS hB (ss.trans s4)) ((ss.trans s4).back hP hPP hS)
        | rt d =>
          simp only at hl
          rw [← hl] at hres
          exact fun v H4 f4 A4 r4 => hres v H4 f4 A4 ((r4.before ss hrk).unlend hP hPP hL)
  · rintro σ' H' ⟨e', f', hl, relI, stI⟩
    rw [List.drop_length] at hl
    simp only [forLoop] at hl
    rw [← hl] at hres
    exact hres σ' H' f' (relI.backS rel1 hS hB stI) (stI.back hP hPP hS)
end
end VL


set_option Elab.async false
set_option linter.all false
set_option maxRecDepth 100000
set_option maxHeartbeats 1000000
/-! VL18: own things moved, frozen; two names at once; items stored. -/
namespace VL
open PySem PySem.Spec PyProof.Rows L2
section
variable {g : G} {N : List Str} {sc fs : Scope} {lv : Nat} {X : Cx} {P : List Nat} {c c1 c2 c' cb : Cn} {W : WX} {rt T T1 T2 t t0 u : Ty} {e e1 e2 e' : Ev} {σ σ1 σ2 σ' : L2.St} {H H1 H2 H' : Hp} {f f1 f2 f' : Ft} {m : M Fl} {m1 m2 : M Dt} {l1 : M (List Dt)} {mp1 : M (Nat × List Dt)} {D : Ends} {p q q2 : Pos} {a b o : Expr} {i j : Nat} {ss : List Stmt}
theorem wkC_no (hj : refS (c.getD j .no) = false) : wkC c (c.set j .no) ∧ refK c (c.set j .no) := by
  refine ⟨⟨by rw [List.length_set], fun k => ?_⟩, refK_set hj⟩
  by_cases h : j = k
  · subst h
    left
    rw [cset_getD]
    by_cases hl : j < c.length
    · simp [hl]
    · rw [if_neg (by simp [hl]), List.getD_eq_getElem?_getD, List.getElem?_eq_none (by omega)]; rfl
  · right; rw [List.getElem?_set_ne h]
theorem move_h (hP : POk P c) (hj : c[j]? = some (.own t)) (hi : i < c.length) (hij : i ≠ j) (hiP : i ∉ P) (h : tS g W rt P c ((c.set j .no).set i (.own t)) cb (mb (fun e => .ok (e.getD j .none, e)) fun x => fun e => .ok (.nx, e.set i x)) D σ H) : tAsg (tVar j) (gName i) D σ H := by
  obtain ⟨e, f, rel, h⟩ := h
  obtain ⟨v, h1, h2⟩ := rel.at_ j _ hj (by intro z; cases z)
  have h2 : Rep g.K H t v (e.getD j .none) (f j) := h2
  obtain ⟨w1, w2⟩ := wkC_no (c := c) (j := j) (by rw [getD_eq hj]; rfl)
  have hjl : j < c.length := (List.getElem?_eq_some_iff.mp hj).1
  have hjP : j ∉ P := fun z => by have := hP j z; rw [getD_eq hj] at this; cases this
  have r1 := rel.weak w1
  have nj : (c.set j Sl.no).getD j .no = .no := by rw [cset_getD]; simp [hjl]
  have s1 : StpS P c e σ H f (c.set j .no) e σ H _ := wk_stp (fun k hk => by
    have z : j ≠ k := fun z => hjP (z ▸ hk)
    rw [cset_getD]; simp only [z, false_and, if_false]; exact hP k hk) w1
  have r2 := storeO (i := i) (T := t) (v := v) (d := e.getD j .none) (A := f j) r1 (by rw [List.length_set]; exact hi) h2 fun a ha k hk => by
    by_cases hkj : k = j
    · subst hkj; simp only [nj, if_true]; simp
    · split
      · simp
      · exact rel.dis j k a (Ne.symm hkj) (by rw [getD_eq hj]; rfl) ha
  have s2 := stpO (i := i) (T := t) (v := v) (d := e.getD j .none) (A := f j) s1 (by rw [List.length_set]; exact hi) hiP fun a ha => .inr ⟨j, by rw [getD_eq hj]; rfl, ha⟩
  exact ⟨v, h1, (show endS g W rt P c ((c.set j .no).set i (.own t)) cb D e σ H f (.ok (.nx, e.set i (e.getD j .none))) from h) _ H _ r2 s2⟩
theorem ok_move {x y : Str} (K : CxV g N sc lv W X) (F : FnV fs X) (hP : POk P c) (hj : c[j]? = some (.own t)) (hi : i < c.length) (hij : i ≠ j) (hiP : i ∉ P) (hN : N[i]? = some x) (hl : locB fs sc x = true) (hNy : N[j]? = some y) (hv : visB sc y = true) (hy : nmB y = true) (hs : swapsWith (.Name y q2) (some (.Name x q)) p.line X.env = pure false) :
    PS X (.Assign [.Name x q] (.Name y q2) p) (tS g W rt P c ((c.set j .no).set i (.own t)) cb (mb (fun e => .ok (e.getD j .none, e)) fun x => fun e => .ok (.nx, e.set i x))) := by
  unfold nmB at hy
  simp only [Bool.and_eq_true, Bool.not_eq_true'] at hy
  obtain ⟨h1, h2⟩ := loc_of F hl
  exact PS.imp (ps_set (by rw [K.hN]; exact K.hnd) (by rw [K.hN]; exact hN) (by rw [K.hsc]; exact h1) (pe_var (i := j) (by rw [K.hN]; exact hNy) (by rw [K.hsc]; exact vis_of hv) hy.1 hy.2) hs (by rw [K.hsc]; exact h2)) fun D σ H h => move_h hP hj hi hij hiP h
/-- an own thing that is written no more -/
theorem oks_frz (hP : POk P c) (hi : c[i]? = some (.own (.ls u))) (nk : noKs u = true) (h : PSs X ss (tS g W rt P (c.set i (.own .sh)) c' cb m)) : PSs X ss (tS g W rt P c c' cb m) := by
  refine ⟨fun pins s σ H D I ⟨e, f, rel, hh⟩ => ?_⟩
  obtain ⟨v, h1, h2⟩ := rel.at_ i _ hi (by intro z; cases z)
  have h2 : Rep g.K H (.ls u) v (e.getD i .none) (f i) := h2
  obtain ⟨H2, I2, sh, kp, fz⟩ := frzR (by intro z; cases z) (fun w hw => by cases hw; exact nk) h2 I
  have hlt : i < c.length := (List.getElem?_eq_some_iff.mp hi).1
  have oi : ownS (c.getD i .no) = true := by rw [getD_eq hi]; rfl
  have im : Im H H2 := fun b u q io => by
    rw [kp b fun z => ?_]; exact q
    obtain ⟨ys, q'⟩ := h2.foot b z
    rw [q] at q'; cases q'; cases io
  have rel2 : Rel g (c.set i (.own .sh)) e σ H2 (upF f i []) := by
    refine ⟨rel.lenE, by rw [List.length_set]; exact rel.lenC, fun j sl h n => ?_, fun j h => ?_, fun j k b hjk ho h3 h4 => ?_, g.tm _ _ (fun b o q n _ => by
        rw [kp b fun z => ?_]; exact q
        obtain ⟨ys, q'⟩ := h2.foot b z
        rw [q] at q'; cases q'; exact n _ rfl) rel.tabs⟩
    · rw [cset_get] at h
      by_cases hj : i = j
      · subst hj
        simp only [hlt, and_self, if_true, Option.some.injEq] at h
        subst h
        rw [upF_same]
        exact ⟨v, h1, .sh sh⟩
      · simp only [hj, false_and, if_false] at h
        obtain ⟨w, q1, q2⟩ := rel.at_ j sl h n
        rw [upF_ne (Ne.symm hj)]
        exact ⟨w, q1, q2.mono im fun b hb o q => by rw [kp b fun z => rel.dis i j b hj oi z hb]; exact q⟩
    · by_cases hj : i = j
      · subst hj; exact upF_same
      · rw [upF_ne (Ne.symm hj)]
        refine rel.free j ?_
        rw [cset_getD] at h; simpa [hj] using h
    · by_cases hj : i = j
      · subst hj; rw [upF_same] at h3; cases h3
      · by_cases hk : i = k
        · subst hk; rw [upF_same] at h4; cases h4
        · rw [upF_ne (Ne.symm hj)] at h3; rw [upF_ne (Ne.symm hk)] at h4
          exact rel.dis j k b hjk (by rw [cset_getD] at ho; simpa [hj] using ho) h3 h4
  have stp : StpS P c e σ H f (c.set i (.own .sh)) e σ H2 (upF f i []) := by
    refine ⟨fun b o q n nt => by rw [kp b (n i oi)]; exact q, fun b q => ?_, fun j b ho hb => ?_, fun j hj => ?_, fun j hj => ?_, by rw [List.length_set]⟩
    · by_cases hb : b ∈ f i
      · obtain ⟨o, xs, z⟩ := fz b hb
        rw [z] at q; cases q
      · rw [kp b hb] at q; exact q
    · by_cases hj : i = j
      · subst hj; rw [upF_same] at hb; cases hb
      · rw [upF_ne (Ne.symm hj)] at hb
        rw [cset_getD] at ho ⊢
        simp only [hj, false_and, if_false] at ho ⊢
        rcases own_cases ho with y | y
        · exact .inr (.inl ⟨j, y, hb⟩)
        · exact .inr (.inr ⟨y, hb⟩)
    · have z : i ≠ j := fun z => by have := hP j hj; rw [← z, getD_eq hi] at this; cases this
      exact ⟨List.getElem?_set_ne z, upF_ne (Ne.symm z), rfl, rfl⟩
    · rw [cset_getD] at hj
      by_cases hij : i = j
      · subst hij; simp [hlt, refS] at hj
      · rw [List.getElem?_set_ne hij]
  exact h.run pins s σ H2 D I2 ⟨e, _, rel2, endS.before stp (refK_set (by rw [getD_eq hi]; rfl)) hh⟩
/-! ### two names at once -/
theorem par_h (hP : POk P c) (hi : i < c.length) (hj : j < c.length) (hij : i ≠ j) (hiP : i ∉ P) (hjP : j ∉ P)
    (h : tS g W rt P c ((c.set i (.own T1)).set j (.own T2)) cb (mb l1 fun xs => fun e => .ok (.nx, (e.set i (xs.getD 0 .none)).set j (xs.getD 1 .none))) D σ H) : tPar i j (tA g c W l1 [.own T1, .own T2] [[], []]) D σ H := by
  obtain ⟨e, f, rel, h⟩ := h
  refine ⟨e, f, rel, at_mono (at_S h) fun ds e1 h1 vs H1 f1 As rel1 st1 al => ?_⟩
  cases al with
  | @own _ v1 d1 A1 _ _ _ _ _ res1 n1 al =>
    cases al with
    | @own _ v2 d2 A2 _ _ _ _ _ res2 n2 al =>
      cases al
      refine ⟨v1, v2, rfl, ?_⟩
      obtain ⟨na, oa⟩ := res_off rel st1 res1
      obtain ⟨nb, ob⟩ := res_off rel st1 res2
      have r1 := storeO (i := i) rel1 hi (res1.rep rfl) fun a ha k _ => oa a ha k
      have s1 := stpO (i := i) (T := T1) (v := v1) (d := d1) (st1.S (σ := σ) hP) hi hiP fun a ha => .inl (na a ha)
      have r2 := storeO (i := j) r1 (by rw [List.length_set]; exact hj) (res2.rep rfl) fun a ha k hk => by
        by_cases z : k = i
        · subst z; rw [upF_same]; exact fun y => n1 a y A2 (by simp) ha
        · rw [upF_ne z]; exact ob a ha k
      have s2 := stpO (i := j) (T := T2) (v := v2) (d := d2) s1 (by rw [List.length_set]; exact hj) hjP fun a ha => .inl (nb a ha)
      exact (show endS g W rt P c ((c.set i (.own T1)).set j (.own T2)) cb D e σ H f (.ok (.nx, (e1.set i d1).set j d2)) from h1) _ H1 _ r2 s2
/-! ### an item stored -/
def storeSem (m1 : M Dt) (mp1 : M (Nat × List Dt)) (m2 : M Dt) : M Fl := mb m1 fun d => mb (mb (mb mp1 fun ks => mb m2 fun k => fun e => match getAt (ks.2 ++ [k]) (e.getD ks.1 .none) with
      | some _ => .ok ((ks.1, ks.2 ++ [k]), e)
      | none => .err) fun ks => fun e =>
      match ks.2 with
      | [] => .err
      | _ :: _ =>
        (match updAt (fun _ => some ((), d)) ks.2 (e.getD ks.1 .none) with
         | some (_, d') => .ok ((), e.set ks.1 d')
         | none => .err)) fun _ => mp .nx
theorem store_h (hP : POk P c) (hr : rootS c i t0) (h : tS g W rt P c c cb (storeSem m1 mp1 m2) D σ H) : tAsg (tV g c W m1 u []) (gSub (tP g c W mp1 i t0 (.ls u)) (tV g (lend c [i]) W m2 .sh []) rSetL) D σ H := by
  obtain ⟨e, f, rel, h⟩ := h
  refine ⟨e, f, rel, at_mono (at_S h) fun d1 e1 h1 v1 H1 f1 A1 rel1 st1 res1 => ?_⟩
  have h1' := endS.before (st1.S (σ := σ) hP) (fun _ _ => rfl) h1
  obtain ⟨na, oa⟩ := res_off rel st1 res1
  have tr1 : ∀ a ∈ A1, H1 a ≠ none := fun a ha z => by obtain ⟨xs, q'⟩ := res1.rv.foot a ha; rw [z] at q'; cases q'
  refine ⟨e1, f1, rel1, ?_⟩
  unfold at_
  cases q1 : mp1 e1 with
  | err => simp only [mb, q1] at h1'; exact h1'
  | exc x xs => simp only [mb, q1] at h1'; exact h1' σ
  | ok r =>
    obtain ⟨ks, e2⟩ := r
    simp only [mb, q1] at h1 h1'
    intro v v0 d A H2 f2 rel2 st2 hk hv0 ln
    refine ⟨e2, f2, rel2.lend [i], ?_⟩
    unfold at_
    cases q2 : m2 e2 with
    | err => simp only [q2] at h1'; exact h1'
    | exc x xs => simp only [q2] at h1'; exact ((h1' σ).later st2).lend [i]
    | ok r =>
      obtain ⟨k, e3⟩ := r
      simp only [q2] at h1 h1'
      intro v2 H3 f3 A3 rel3 st3 res3
      have rel3' := rel3.back rel2 st3
      have st3' := st3.lent rel2
      have ln3 := ln.lent (S := [i]) (by simp) hr.own rel2 st3
      subst hk
      cases hg : getAt (ks.2 ++ [k]) (e3.getD ks.1 .none) with
      | none => simp only [hg] at h1'; exact h1'.elim
      | some d' =>
        simp only [hg] at h1 h1'
        have hg2 : getAt [k] d = some d' := by rw [getAt_append, ln3.get] at hg; exact hg
        cases k with
        | int j =>
          cases d with
          | list ds =>
            simp only [getAt] at hg2
            cases hi : ixN ds.length j with
            | none => rw [hi] at hg2; cases hg2
            | some k =>
              obtain ⟨S, hS, hp⟩ := ln3.put
              have hne : ks.2 ++ [PyData.int j] ≠ [] := by simp
              have hup : updAt (fun _ => some ((), d1)) (ks.2 ++ [.int j]) (e3.getD ks.1 .none) = some ((), S (.list (ds.set k d1))) := by
                rw [updAt_append, hS]
                simp only [updAt, hi, Option.bind_some]
                cases hd : ds[k]? with
                | none => rw [hi] at hg2; simp [hd] at hg2
                | some z => rfl
              have h2 : endS g W rt P c c cb D e σ H f (.ok (.nx, e3.set ks.1 (S (.list (ds.set k d1))))) := by
                cases hq : ks.2 ++ [PyData.int j] with
                | nil => exact absurd hq hne
                | cons z zs =>
                  rw [hq] at h1 hup
                  simp only [hup] at h1
                  exact h1
              have rp3 := ln3.rep
              have sub3 := ln3.sub
              cases rp3 with
              | @ls _ l xs _ B el rA nl =>
                have r1 : Rep g.K H3 u v1 d1 A1 := by
                  have s0 := st2.trans st3'
                  refine (res1.rep rfl).mono (rel1.im s0.fr) fun a ha o q => s0.fr a o q (fun m _ hm => oa a ha m hm) fun ps z => ?_
                  obtain ⟨xs, q'⟩ := res1.rv.foot a ha
                  rw [z, q'] at q; cases q
                have oa3 : ∀ a ∈ A1, ∀ m, a ∉ f3 m := fun a ha m hm => by
                  have s0 := st2.trans st3'
                  cases ho : ownS (c.getD m .no) with
                  | true =>
                    rcases s0.gro m a ho hm with ⟨w, _, z, _⟩ | z
                    · exact oa a ha w z
                    · exact tr1 a ha z
                  | false => rw [(s0.keep m ho).1] at hm; exact oa a ha m hm
                have nAB : ∀ a ∈ A1, a ∉ B := fun a ha z => oa3 a ha ks.1 (sub3 a (List.mem_cons_of_mem _ z))
                obtain ⟨B2, rB2, mB⟩ := rA.put (k := k) r1 nAB
                have lB2 : l ∉ B2 := fun z => by
                  rcases mB l z with y | y
                  · exact nl y
                  · exact oa3 l y ks.1 (sub3 l List.mem_cons_self)
                have im := up_im (ys := xs.set k v1) el
                have kpl : ∀ a o, a ∉ l :: B → H3 a = some o → (upd H3 l (.lst (xs.set k v1))) a = some o := up_keep List.mem_cons_self
                obtain ⟨A4, r4, m4⟩ := hp _ (.list (ds.set k d1)) (l :: B2) im (fun a _ hn o q => kpl a o hn q) (.ls upd_same (rB2.mono im fun a ha o q => by
                    rw [upd_ne (fun z => lB2 (by rw [← z]; exact ha))]; exact q) lB2) (fun a ha => by
                    rcases List.mem_cons.mp ha with z | z
                    · rw [z]; exact .inl List.mem_cons_self
                    · rcases mB a z with y | y
                      · exact .inl (List.mem_cons_of_mem _ y)
                      · exact .inr (oa3 a y ks.1))
                obtain ⟨rel4, st4⟩ := rel3'.put (st1.trans (st2.trans st3')) hr hv0 r4 im (fun a o hn q => kpl a o (fun z => hn (sub3 a z)) q) up_old fun a ha => by
                  rcases m4 a ha with ⟨z, _⟩ | z
                  · exact .inl z
                  · rcases List.mem_cons.mp z with y | y
                    · rw [y]; exact .inl (sub3 l List.mem_cons_self)
                    · rcases mB a y with w | w
                      · exact .inl (sub3 a (List.mem_cons_of_mem _ w))
                      · exact .inr ⟨na a w, oa3 a w⟩
                refine ⟨l, xs, j, k, rfl, res3.rv.int, el, by rw [rA.length]; exact hi, ?_⟩
                exact h2 σ _ _ rel4 (st4.S hP)
          | _ => simp [getAt] at hg2
        | _ => simp [getAt] at hg2
/-! ### three names at once; two items at once -/
theorem par3_h {l : Nat} {T3 : Ty} (hP : POk P c) (hi : i < c.length) (hj : j < c.length) (hl : l < c.length) (hij : i ≠ j) (hil : i ≠ l) (hjl : j ≠ l) (hiP : i ∉ P) (hjP : j ∉ P) (hlP : l ∉ P)
    (h : tS g W rt P c (((c.set i (.own T1)).set j (.own T2)).set l (.own T3)) cb (mb l1 fun xs => fun e => .ok (.nx, ((e.set i (xs.getD 0 .none)).set j (xs.getD 1 .none)).set l (xs.getD 2 .none))) D σ H) : tPar3 i j l (tA g c W l1 [.own T1, .own T2, .own T3] [[], [], []]) D σ H := by
  obtain ⟨e, f, rel, h⟩ := h
  refine ⟨e, f, rel, at_mono (at_S h) fun ds e1 h1 vs H1 f1 As rel1 st1 al => ?_⟩
  cases al with
  | @own _ v1 d1 A1 _ _ _ _ _ res1 n1 al =>
    cases al with
    | @own _ v2 d2 A2 _ _ _ _ _ res2 n2 al =>
      cases al with
      | @own _ v3 d3 A3 _ _ _ _ _ res3 n3 al =>
        cases al
        refine ⟨v1, v2, v3, rfl, ?_⟩
        obtain ⟨na, oa⟩ := res_off rel st1 res1
        obtain ⟨nb, ob⟩ := res_off rel st1 res2
        obtain ⟨nc, oc⟩ := res_off rel st1 res3
        have r1 := storeO (i := i) rel1 hi (res1.rep rfl) fun a ha k _ => oa a ha k
        have s1 := stpO (i := i) (T := T1) (v := v1) (d := d1) (st1.S (σ := σ) hP) hi hiP fun a ha => .inl (na a ha)
        have r2 := storeO (i := j) r1 (by rw [List.length_set]; exact hj) (res2.rep rfl) fun a ha k hk => by
          by_cases z : k = i
          · subst z; rw [upF_same]; exact fun y => n1 a y A2 (by simp) ha
          · rw [upF_ne z]; exact ob a ha k
        have s2 := stpO (i := j) (T := T2) (v := v2) (d := d2) s1 (by rw [List.length_set]; exact hj) hjP fun a ha => .inl (nb a ha)
        have r3 := storeO (i := l) r2 (by rw [List.length_set, List.length_set]; exact hl) (res3.rep rfl) fun a ha k hk => by
          by_cases z : k = j
          · subst z; rw [upF_same]; exact fun y => n2 a y A3 (by simp) ha
          · rw [upF_ne z]
            by_cases w : k = i
            · subst w; rw [upF_same]; exact fun y => n1 a y A3 (by simp) ha
            · rw [upF_ne w]; exact oc a ha k
        have s3 := stpO (i := l) (T := T3) (v := v3) (d := d3) s2 (by rw [List.length_set, List.length_set]; exact hl) hlP fun a ha => .inl (nc a ha)
        exact (show endS g W rt P c (((c.set i (.own T1)).set j (.own T2)).set l (.own T3)) cb D e σ H f (.ok (.nx, ((e1.set i d1).set j d2).set l d3)) from h1) _ H1 _ r3 s3
/-- one item stored, the value known -/
def stB (mp1 : M (Nat × List Dt)) (m2 : M Dt) (d : Dt) : M Unit := mb (mb mp1 fun ks => mb m2 fun k => fun e => match getAt (ks.2 ++ [k]) (e.getD ks.1 .none) with
      | some _ => .ok ((ks.1, ks.2 ++ [k]), e)
      | none => .err) fun ks => fun e =>
      match ks.2 with
      | [] => .err
      | _ :: _ =>
        (match updAt (fun _ => some ((), d)) ks.2 (e.getD ks.1 .none) with
         | some (_, d') => .ok ((), e.set ks.1 d')
         | none => .err)
def finU (g : G) (c : Cn) (σ : L2.St) (Q : L2.St → Hp → Prop) : Fn_ Unit := fun _ e' e H f => ∀ H' f', Rel g c e' σ H' f' → Stp c e H f e' H' f' → Q σ H'
theorem store_v {e1 : Ev} {H1 : Hp} {f1 : Ft} {v1 : V} {d1 : Dt} {Q : L2.St → Hp → Prop} (hr : rootS c i t0) (rel1 : Rel g c e1 σ H1 f1) (sv : Sh g.K H1 v1 d1) (h : at_ g c W (finU g c σ Q) (stB mp1 m2 d1) e1 f1 σ H1) :
    gSub (tP g c W mp1 i t0 (.ls .sh)) (tV g (lend c [i]) W m2 .sh []) rSetL v1 σ H1 Q := by
  unfold at_ stB at h
  refine ⟨e1, f1, rel1, ?_⟩
  unfold at_
  cases q1 : mp1 e1 with
  | err => simp only [mb, q1] at h
  | exc x xs => simp only [mb, q1] at h; exact h
  | ok r =>
    obtain ⟨ks, e2⟩ := r
    simp only [mb, q1] at h
    intro v v0 d A H2 f2 rel2 st2 hk hv0 ln
    refine ⟨e2, f2, rel2.lend [i], ?_⟩
    unfold at_
    cases q2 : m2 e2 with
    | err => simp only [q2] at h
    | exc x xs => simp only [q2] at h; exact (h.later st2).lend [i]
    | ok r =>
      obtain ⟨k, e3⟩ := r
      simp only [q2] at h
      intro v2 H3 f3 A3 rel3 st3 res3
      have rel3' := rel3.back rel2 st3
      have st3' := st3.lent rel2
      have ln3 := ln.lent (S := [i]) (by simp) hr.own rel2 st3
      subst hk
      cases hg : getAt (ks.2 ++ [k]) (e3.getD ks.1 .none) with
      | none => simp only [hg] at h
      | some d' =>
        simp only [hg] at h
        have hg2 : getAt [k] d = some d' := by rw [getAt_append, ln3.get] at hg; exact hg
        cases k with
        | int j =>
          cases d with
          | list ds =>
            simp only [getAt] at hg2
            cases hi : ixN ds.length j with
            | none => rw [hi] at hg2; cases hg2
            | some k =>
              obtain ⟨S, hS, hp⟩ := ln3.put
              have hne : ks.2 ++ [PyData.int j] ≠ [] := by simp
              have hup : updAt (fun _ => some ((), d1)) (ks.2 ++ [.int j]) (e3.getD ks.1 .none) = some ((), S (.list (ds.set k d1))) := by
                rw [updAt_append, hS]
                simp only [updAt, hi, Option.bind_some]
                cases hd : ds[k]? with
                | none => rw [hi] at hg2; simp [hd] at hg2
                | some z => rfl
              have h2 : finU g c σ Q () (e3.set ks.1 (S (.list (ds.set k d1)))) e1 H1 f1 := by
                cases hq : ks.2 ++ [PyData.int j] with
                | nil => exact absurd hq hne
                | cons z zs =>
                  rw [hq] at h hup
                  simp only [hup] at h
                  exact h
              have rp3 := ln3.rep
              have sub3 := ln3.sub
              cases rp3 with
              | @ls _ l xs _ B el rA nl =>
                have s0 := st2.trans st3'
                have r1 : Rep g.K H3 .sh v1 d1 [] := .sh (sv.mono (rel1.im s0.fr))
                obtain ⟨B2, rB2, mB⟩ := rA.put (k := k) r1 (fun a ha => by cases ha)
                have lB2 : l ∉ B2 := fun z => by
                  rcases mB l z with y | y
                  · exact nl y
                  · cases y
                have im := up_im (ys := xs.set k v1) el
                have kpl : ∀ a o, a ∉ l :: B → H3 a = some o → (upd H3 l (.lst (xs.set k v1))) a = some o := up_keep List.mem_cons_self
                obtain ⟨A4, r4, m4⟩ := hp _ (.list (ds.set k d1)) (l :: B2) im (fun a _ hn o q => kpl a o hn q) (.ls upd_same (rB2.mono im fun a ha o q => by
                    rw [upd_ne (fun z => lB2 (by rw [← z]; exact ha))]; exact q) lB2) (fun a ha => by
                    rcases List.mem_cons.mp ha with z | z
                    · rw [z]; exact .inl List.mem_cons_self
                    · rcases mB a z with y | y
                      · exact .inl (List.mem_cons_of_mem _ y)
                      · cases y)
                obtain ⟨rel4, st4⟩ := rel3'.put s0 hr hv0 r4 im (fun a o hn q => kpl a o (fun z => hn (sub3 a z)) q) up_old fun a ha => by
                  rcases m4 a ha with ⟨z, _⟩ | z
                  · exact .inl z
                  · rcases List.mem_cons.mp z with y | y
                    · rw [y]; exact .inl (sub3 l List.mem_cons_self)
                    · rcases mB a y with w | w
                      · exact .inl (sub3 a (List.mem_cons_of_mem _ w))
                      · cases w
                refine ⟨l, xs, j, k, rfl, res3.rv.int, el, by rw [rA.length]; exact hi, ?_⟩
                exact h2 _ _ rel4 st4
          | _ => simp [getAt] at hg2
        | _ => simp [getAt] at hg2
/-- two items stored of a pair -/
def st2 (mp1 : M (Nat × List Dt)) (m2 : M Dt) (mp1' : M (Nat × List Dt)) (m2' : M Dt) (d : Dt) : M Unit := mb (mo (tupOf d)) fun xs => match xs with
  | [d1, d2] => mb (stB mp1 m2 d1) fun _ => stB mp1' m2' d2
  | _ => fun _ => .err
theorem store2_h {mp1' : M (Nat × List Dt)} {m2' : M Dt} {i' : Nat} {t0' : Ty} (hP : POk P c) (hr : rootS c i t0) (hr' : rootS c i' t0') (h : tS g W rt P c c cb (mb m1 fun d => mb (st2 mp1 m2 mp1' m2' d) fun _ => mp .nx) D σ H) :
    tAsg (tV g c W m1 .sh []) (gTup g.K 2 (gCons (gSub (tP g c W mp1 i t0 (.ls .sh)) (tV g (lend c [i]) W m2 .sh []) rSetL) (gCons (gSub (tP g c W mp1' i' t0' (.ls .sh)) (tV g (lend c [i']) W m2' .sh []) rSetL) gNil))) D σ H := by
  obtain ⟨e, f, rel, h⟩ := h
  refine ⟨e, f, rel, at_mono (at_S h) fun d e1 h1 v H1 f1 A rel1 st1 res1 => ?_⟩
  have h1' := endS.before (st1.S (σ := σ) hP) (fun _ _ => rfl) h1
  have sv : Sh g.K H1 v d := by have z := res1.rep rfl; cases z with | sh z => exact z
  cases d with
  | tuple ds =>
    match ds, sv with
    | [], _ => simp [mb, mo, st2, tupOf] at h1'; exact h1'.elim
    | [_], _ => simp [mb, mo, st2, tupOf] at h1'; exact h1'.elim
    | _ :: _ :: _ :: _, _ => simp [mb, mo, st2, tupOf] at h1'; exact h1'.elim
    | [d1, d2], sv =>
      cases sv with
      | tup ea sa =>
        cases sa with
        | @cons w1 _ _ _ s1 sa =>
          cases sa with
          | @cons w2 _ _ _ s2 sa =>
            cases sa
            refine ⟨_, [w1, w2], rfl, ea.sq, rfl, w1, [w2], rfl, store_v hr rel1 s1 ?_⟩
            unfold at_
            have e2 : st2 mp1 m2 mp1' m2' (.tuple [d1, d2]) e1 = mb (stB mp1 m2 d1) (fun _ => stB mp1' m2' d2) e1 := rfl
            cases q : stB mp1 m2 d1 e1 with
            | err => simp only [mb, e2, q] at h1'; exact h1'
            | exc x xs => simp only [mb, e2, q] at h1'; exact h1' σ
            | ok r =>
              obtain ⟨⟨⟩, e3⟩ := r
              intro H3 f3 rel3 st3
              refine ⟨w2, [], rfl, store_v hr' rel3 (s2.mono (rel1.im st3.fr)) ?_⟩
              unfold at_
              cases q' : stB mp1' m2' d2 e3 with
              | err => simp only [mb, e2, q, q'] at h1'; exact h1'
              | exc x xs => simp only [mb, e2, q, q'] at h1'; exact (h1' σ).later st3
              | ok r =>
                obtain ⟨⟨⟩, e4⟩ := r
                simp only [mb, e2, q, q'] at h1'
                intro H4 f4 rel4 st4
                exact ⟨rfl, h1' σ H4 f4 rel4 ((st3.trans st4).S hP)⟩
  | _ => simp [mb, mo, st2, tupOf] at h1'; exact h1'.elim
end
end VL


set_option Elab.async false
set_option linter.all false
set_option maxRecDepth 100000
set_option maxHeartbeats 1000000
/-! VL19: what holds of every tree printed; the last rules. -/
namespace VL
open PySem PySem.Spec PyProof.Rows L2
section
variable {env : Env} {p q : Pos} {es : List Expr}
theorem star_py : ∀ (a : E), starEach (py a :: es) env = (false, eval (py a) env) :: starEach es env
  | .var .. => rfl
  | .gl .. => rfl
  | .non _ => rfl
  | .bl .. => rfl
  | .int .. => rfl
  | .str .. => rfl
  | .bop .. => rfl
  | .neg .. => rfl
  | .not .. => rfl
  | .and .. => rfl
  | .or .. => rfl
  | .cmp .. => rfl
  | .cmp2 .. => rfl
  | .ife .. => rfl
  | .tup .. => rfl
  | .lst .. => rfl
  | .dct0 _ => rfl
  | .sub .. => rfl
  | .slc .. => rfl
  | .call .. => rfl
  | .b1 .. => rfl
  | .b1r .. => rfl
  | .isi .. => rfl
  | .mut .. => rfl
  | .lk .. => rfl
  | .lc .. => rfl
  | .dc .. => rfl
  | .wrd .. => rfl
  | .frz a => star_py a
theorem star_pys : ∀ (es : Es), (backTo p (starEach (pys es) env)).any (·.1) = false
  | .nil => rfl
  | .cons a r => by
    show (backTo p (starEach (py a :: pys r) env)).any (·.1) = false
    rw [star_py a]
    have z := star_pys r
    unfold backTo at z ⊢
    simp only [List.map_cons, List.any_cons, Bool.false_or]
    exact z
theorem plain_py : ∀ (a : E), PlainIx (py a)
  | .var .. => fun _ _ => rfl
  | .gl .. => fun _ _ => rfl
  | .non _ => fun _ _ => rfl
  | .bl .. => fun _ _ => rfl
  | .int .. => fun _ _ => rfl
  | .str .. => fun _ _ => rfl
  | .bop .. => fun _ _ => rfl
  | .neg .. => fun _ _ => rfl
  | .not .. => fun _ _ => rfl
  | .and .. => fun _ _ => rfl
  | .or .. => fun _ _ => rfl
  | .cmp .. => fun _ _ => rfl
  | .cmp2 .. => fun _ _ => rfl
  | .ife .. => fun _ _ => rfl
  | .tup .. => fun _ _ => rfl
  | .lst .. => fun _ _ => rfl
  | .dct0 _ => fun _ _ => rfl
  | .sub .. => fun _ _ => rfl
  | .slc .. => fun _ _ => rfl
  | .call .. => fun _ _ => rfl
  | .b1 .. => fun _ _ => rfl
  | .b1r .. => fun _ _ => rfl
  | .isi .. => fun _ _ => rfl
  | .mut .. => fun _ _ => rfl
  | .lk .. => fun _ _ => rfl
  | .lc .. => fun _ _ => rfl
  | .dc .. => fun _ _ => rfl
  | .wrd .. => fun _ _ => rfl
  | .frz a => plain_py a
theorem behind_py {o : CmpOp} : ∀ (a : E), behindInMarks o (py a) = false
  | .var .. => rfl
  | .gl .. => rfl
  | .non _ => rfl
  | .bl .. => rfl
  | .int .. => rfl
  | .str .. => rfl
  | .bop .. => rfl
  | .neg .. => rfl
  | .not .. => rfl
  | .and .. => rfl
  | .or .. => rfl
  | .cmp .. => rfl
  | .cmp2 .. => rfl
  | .ife .. => rfl
  | .tup .. => rfl
  | .lst .. => rfl
  | .dct0 _ => rfl
  | .sub .. => rfl
  | .slc .. => rfl
  | .call .. => rfl
  | .b1 .. => rfl
  | .b1r .. => rfl
  | .isi .. => rfl
  | .mut .. => rfl
  | .lk .. => rfl
  | .lc .. => rfl
  | .dc .. => rfl
  | .wrd .. => rfl
  | .frz a => behind_py a
theorem fold_py {x : Value} : ∀ (a : E), foldedSetIterable (py a) env x = pure x
  | .var .. => rfl
  | .gl .. => rfl
  | .non _ => rfl
  | .bl .. => rfl
  | .int .. => rfl
  | .str .. => rfl
  | .bop .. => rfl
  | .neg .. => rfl
  | .not .. => rfl
  | .and .. => rfl
  | .or .. => rfl
  | .cmp .. => rfl
  | .cmp2 .. => rfl
  | .ife .. => rfl
  | .tup .. => rfl
  | .lst .. => rfl
  | .dct0 _ => rfl
  | .sub .. => rfl
  | .slc .. => rfl
  | .call .. => rfl
  | .b1 .. => rfl
  | .b1r .. => rfl
  | .isi .. => rfl
  | .mut .. => rfl
  | .lk .. => rfl
  | .lc .. => rfl
  | .dc .. => rfl
  | .wrd .. => rfl
  | .frz a => fold_py a
theorem fold_pyi {x : Value} : ∀ (i : It), foldedSetIterable (pyi i) env x = pure x
  | .of a => fold_py a
  | .rng .. => rfl
  | .enu .. => rfl
  | .zip .. => rfl
/-- not a comprehension at the top -/
def ncE : E → Bool
  | .lc .. => false
  | .dc .. => false
  | .frz a => ncE a
  | _ => true
theorem swaps_py {t : Option Expr} {l : Nat} : ∀ (a : E), ncE a = true → swapsWith (py a) t l env = pure false
  | .var .., _ => rfl
  | .gl .., _ => rfl
  | .non _, _ => rfl
  | .bl .., _ => rfl
  | .int .., _ => rfl
  | .str .., _ => rfl
  | .bop .., _ => rfl
  | .neg .., _ => rfl
  | .not .., _ => rfl
  | .and .., _ => rfl
  | .or .., _ => rfl
  | .cmp .., _ => rfl
  | .cmp2 .., _ => rfl
  | .ife .., _ => rfl
  | .tup .., _ => rfl
  | .lst .., _ => rfl
  | .dct0 _, _ => rfl
  | .sub .., _ => rfl
  | .slc .., _ => rfl
  | .call .., _ => rfl
  | .b1 .., _ => rfl
  | .b1r .., _ => rfl
  | .isi .., _ => rfl
  | .mut .., _ => rfl
  | .lk .., _ => rfl
  | .lc .., h => by simp [ncE] at h
  | .dc .., h => by simp [ncE] at h
  | .wrd .., _ => rfl
  | .frz a, h => swaps_py a (by simpa [ncE] using h)
/-- not a row in brackets -/
def ntE : E → Bool
  | .tup .. => false
  | .frz a => ntE a
  | _ => true
theorem stores_py {t : Expr} : ∀ (a : E), ntE a = true → swappedStores [t] (py a) env = pure none
  | .tup .., h => by simp [ntE] at h
  | .frz a, h => stores_py a (by simpa [ntE] using h)
  | .var .., _ => by cases t <;> rfl
  | .gl .., _ => by cases t <;> rfl
  | .non _, _ => by cases t <;> rfl
  | .bl .., _ => by cases t <;> rfl
  | .int .., _ => by cases t <;> rfl
  | .str .., _ => by cases t <;> rfl
  | .bop .., _ => by cases t <;> rfl
  | .neg .., _ => by cases t <;> rfl
  | .not .., _ => by cases t <;> rfl
  | .and .., _ => by cases t <;> rfl
  | .or .., _ => by cases t <;> rfl
  | .cmp .., _ => by cases t <;> rfl
  | .cmp2 .., _ => by cases t <;> rfl
  | .ife .., _ => by cases t <;> rfl
  | .lst .., _ => by cases t <;> rfl
  | .dct0 _, _ => by cases t <;> rfl
  | .sub .., _ => by cases t <;> rfl
  | .slc .., _ => by cases t <;> rfl
  | .call .., _ => by cases t <;> rfl
  | .b1 .., _ => by cases t <;> rfl
  | .b1r .., _ => by cases t <;> rfl
  | .isi .., _ => by cases t <;> rfl
  | .mut .., _ => by cases t <;> rfl
  | .lk .., _ => by cases t <;> rfl
  | .lc .., _ => by cases t <;> rfl
  | .dc .., _ => by cases t <;> rfl
  | .wrd .., _ => by cases t <;> rfl
theorem base_pyp {n : Str} : ∀ (b : Pt), attributeBase (pyp b) n env (eval (pyp b) env) = eval (pyp b) env
  | .nm .. => rfl
  | .ix .. => rfl
theorem few_py {a : E} : ((backTo p (starEach [py a] env)).all (fun x => !x.1) && (backToKw p (keywordEach [] env)).all (fun x => x.1.isSome)
      && decide (([py a] : List Expr).length + ([] : List Keyword).length + (if ([] : List Keyword).isEmpty then 0 else 1) < 30)) = true := by
  rw [star_py a]; rfl
end
end VL


set_option Elab.async false
set_option linter.all false
set_option maxRecDepth 100000
set_option maxHeartbeats 1000000
/-! VL20: the rules with their sides done. -/
namespace VL
open PySem PySem.Spec PyProof.Rows L2
section
variable {g : G} {N : List Str} {sc fs : Scope} {lv : Nat} {X : Cx} {P S1 : List Nat} {c c1 c' cb : Cn} {W : WX} {rt T T1 T2 t0 u : Ty} {m : M Fl} {m1 m2 : M Dt} {mi : M (List Dt)} {mc : M Bool} {l1 : M (List Dt)} {mp1 : M (Nat × List Dt)} {p q q2 q3 : Pos} {TT : List Fn} {tg : Tg} {i j : Nat} {own : List (Str × Nat)} {scp : Scope}
theorem ok_gli {x : Str} {n : Int} {tk : Tok} (K : CxV g N sc lv W X) (hg : glB sc x = true) (hm : X.mg x = some (.int n tk)) (hd : (x == ("__debug__" : Str)) = false) : PE X (.Name x p) (tV g c W (mp (.int n)) .sh []) :=
  ok_con (pe_glob (v := .int n) (gl_of K hg) hm ⟨tk, rfl⟩ hd) fun _ => .int n
theorem blk_cx {s : Shared} {H : Hp} {C : Addr} {cl : List (Str × Addr)} {fp : List Addr} (K : CxV g N sc lv W X) : CxV g N (relS scp sc) lv (fun _ _ _ _ => False) (X.blk s H scp (compEnvC scp cl C X.env) fp) :=
  ⟨K.hK, K.hN, K.hnd, by show relS scp X.env.scope = relS scp sc; rw [K.hsc], K.calm, K.room, takes0, K.bt⟩
theorem blk_fn {s : Shared} {H : Hp} {ce : Env} {fp : List Addr} : FnV scp (X.blk s H scp ce fp) := fun x h => by
  show (scp.names.lookup x == some .cell) = true
  rw [h]; rfl
/-- a test that there is none of -/
theorem pts_none : PTs X [] (tT g c W (mp true)) := ⟨fun pins s σ H Q I h => pts_nil.run pins s σ H Q I (by
  obtain ⟨e, f, rel, h⟩ := h
  exact (show finT g c σ Q true e e H f from h) H f rel Stp.refl)⟩
/-- what a comprehension's block is -/
def BK (g : G) (N : List Str) (sc scp : Scope) (lv : Nat) (X Y : Cx) : Prop := CxV g N (relS scp sc) lv (fun _ _ _ _ => False) Y ∧ FnV scp Y ∧ Y.prog = X.prog ∧ Y.w = X.w ∧ Y.K = X.K ∧ Y.mg = X.mg ∧ Y.base = X.base ∧ Y.A = X.A
theorem bk_of {s : Shared} {H : Hp} {C : Addr} {cl : List (Str × Addr)} {fp : List Addr} (K : CxV g N sc lv W X) : BK g N sc scp lv X (X.blk s H scp (compEnvC scp cl C X.env) fp) := ⟨blk_cx K, blk_fn, rfl, rfl, rfl, rfl, rfl, rfl⟩
section
variable {it elt kx vx : Expr} {ifs : List Expr} {me mk : M Dt}
theorem ok_lc (K : CxV g N sc lv W X) (hi : PI X (pyt tg) it (tI g c W mi T1 S1)) (ok : BlkOk N sc scp own) (htg : tgOk scp (relS scp sc) N (blank (own.map (·.2)) (lend c S1)) tg = true) (ht : T1 = .sh ∨ ∃ x i p, tg = .nm x i p) (hvs : ∀ j ∈ tgIx tg, j ∈ own.map (·.2))
    (hc : ∀ Y, BK g N sc scp lv X Y → PTs Y ifs (tT g (stC T1 tg (blank (own.map (·.2)) (lend c S1))) (fun _ _ _ _ => False) mc)) (he : ∀ Y, BK g N sc scp lv X Y → PE Y elt (tV g (stC T1 tg (blank (own.map (·.2)) (lend c S1))) (fun _ _ _ _ => False) me T []))
    (hs : ∀ x, foldedSetIterable it X.env x = pure x) : PE X (.ListComp elt [⟨pyt tg, it, ifs, 0⟩] scp p) (tV g c W (lcSem TT tg mi mc me (own.map (·.2))) (.ls T) []) := by
  refine PE.imp (pe_lc (own := own) K.calm (by rw [K.hN]; exact K.hnd) hi (by rw [K.hN, K.hsc]; exact ok) (fun s H C cl fp => show PG (X.blk s H scp (compEnvC scp cl C X.env) fp) (pyt tg) (gR X.K tg) from pg_tg (X := X.blk s H scp (compEnvC scp cl C X.env) fp) (blk_cx K) blk_fn tg htg) (fun s H C cl fp => hc _ (bk_of K)) (fun s H C cl fp => he _ (bk_of K)) hs) fun σ H Q h => ?_
  show tLc _ (gR X.K tg) _ _ _ σ H Q
  rw [K.hK]
  exact lc_h rfl htg ht hvs h
theorem ok_setLc {y : Str} (K : CxV g N sc lv W X) (hP : POk P c) (hil : i < c.length) (hiP : i ∉ P) (hN : N[i]? = some y) (hl : sc.names.lookup y = some .local) (hi : PI X (pyt tg) it (tI g c W mi T1 S1)) (ok : BlkOk N sc scp own) (htg : tgOk scp (relS scp sc) N (blank (own.map (·.2)) (lend c S1)) tg = true) (ht : T1 = .sh ∨ ∃ x i p, tg = .nm x i p) (hvs : ∀ j ∈ tgIx tg, j ∈ own.map (·.2))
    (hc : ∀ Y, BK g N sc scp lv X Y → PTs Y ifs (tT g (stC T1 tg (blank (own.map (·.2)) (lend c S1))) (fun _ _ _ _ => False) mc)) (he : ∀ Y, BK g N sc scp lv X Y → PE Y elt (tV g (stC T1 tg (blank (own.map (·.2)) (lend c S1))) (fun _ _ _ _ => False) me T []))
    (hs : ∀ x, foldedSetIterable it X.env x = pure x) (hsw : swapsWith (.ListComp elt [⟨pyt tg, it, ifs, 0⟩] scp p) (some (.Name y q)) q2.line X.env = pure true) :
    PS X (.Assign [.Name y q] (.ListComp elt [⟨pyt tg, it, ifs, 0⟩] scp p) q2) (tS g W rt P c (c.set i (.own (.ls T))) cb (mb (lcSem TT tg mi mc me (own.map (·.2))) fun x => fun e => .ok (.nx, e.set i x))) := by
  refine PS.imp (ps_setLc (own := own) K.calm (by rw [K.hN]; exact K.hnd) (by rw [K.hN]; exact hN) (by rw [K.hsc]; exact hl) hsw hi (by rw [K.hN, K.hsc]; exact ok) (fun s H C cl fp => show PG (X.blk s H scp (compEnvC scp cl C X.env) fp) (pyt tg) (gR X.K tg) from pg_tg (X := X.blk s H scp (compEnvC scp cl C X.env) fp) (blk_cx K) blk_fn tg htg) (fun s H C cl fp => hc _ (bk_of K)) (fun s H C cl fp => he _ (bk_of K)) hs) fun D σ H h => ?_
  have z := set_h hP hil hiP h
  show tLc _ (gR X.K tg) _ _ _ σ H _
  rw [K.hK]
  exact lc_h rfl htg ht hvs z
theorem dcSem_kind {vs : List Nat} {e e' : Ev} {ys : List (Dt × Dt)} (h : dcSem TT tg mi mk me vs e = .ok (.dict ys, e')) : kindB ys = true := by
  unfold dcSem mb at h
  cases q1 : mi e with
  | err => rw [q1] at h; cases h
  | exc x xs => rw [q1] at h; cases h
  | ok q =>
    obtain ⟨ds, e1⟩ := q
    rw [q1] at h
    simp only at h
    cases q2 : (if ds.length ≤ sizeLine then dcLoop (dcBody TT tg mk me) ds [] e1 else .err) with
    | err => rw [q2] at h; cases h
    | exc x xs => rw [q2] at h; cases h
    | ok q =>
      obtain ⟨kvs, e2⟩ := q
      rw [q2] at h
      simp only at h
      by_cases kb : kindB kvs = true
      · rw [if_pos kb] at h
        cases h
        exact kb
      · rw [if_neg kb] at h; cases h
theorem dtv {c : Cn} {m : M Dt} (h : PE X it (tD g c W m)) : PE X it (tV g c W m .sh []) := ok_dfrz h
theorem ok_dc (K : CxV g N sc lv W X) (hi : PI X (pyt tg) it (tI g c W mi T1 S1)) (ok : BlkOk N sc scp own) (htg : tgOk scp (relS scp sc) N (blank (own.map (·.2)) (lend c S1)) tg = true) (ht : T1 = .sh ∨ ∃ x i p, tg = .nm x i p) (hvs : ∀ j ∈ tgIx tg, j ∈ own.map (·.2))
    (hk : ∀ Y, BK g N sc scp lv X Y → PE Y kx (tV g (stC T1 tg (blank (own.map (·.2)) (lend c S1))) (fun _ _ _ _ => False) mk .sh [])) (he : ∀ Y, BK g N sc scp lv X Y → PE Y vx (tV g (stC T1 tg (blank (own.map (·.2)) (lend c S1))) (fun _ _ _ _ => False) me .sh []))
    (hs : ∀ x, foldedSetIterable it X.env x = pure x) : PE X (.DictComp kx vx [⟨pyt tg, it, [], 0⟩] scp p) (tV g c W (dcSem TT tg mi mk me (own.map (·.2))) .sh []) := by
  refine ok_dfrz ⟨fun pins s σ H Q I h => ?_⟩
  obtain ⟨e, f, rel, h⟩ := h
  have pg : ∀ (s : Shared) (H : Hp) (C : Addr) (cl : List (Str × Addr)) (fp : List Addr), PG (X.blk s H scp (compEnvC scp cl C X.env) fp) (pyt tg) (gR X.K tg) := fun s H C cl fp => pg_tg (X := X.blk s H scp (compEnvC scp cl C X.env) fp) (blk_cx K) blk_fn tg htg
  by_cases kk : kOf (dcSem TT tg mi mk me (own.map (·.2))) e keyD
  · refine (pe_dc (own := own) K.calm (by rw [K.hN]; exact K.hnd) hi (by rw [K.hN, K.hsc]; exact ok) pg (fun s H C cl fp => pts_nil) (fun s H C cl fp => hk _ (bk_of K)) (fun s H C cl fp => he _ (bk_of K)) hs).run pins s σ H Q I ?_
    show tDc _ (gR X.K tg) _ _ _ _ σ H Q
    rw [K.hK]
    exact dc_h rfl htg ht hvs rel h kk
  · have kt : kOf (dcSem TT tg mi mk me (own.map (·.2))) e keyT := fun ys e' q => by
      have kb := dcSem_kind q
      unfold kindB at kb
      rw [Bool.or_eq_true] at kb
      rcases kb with kb | kb
      · exact absurd (fun ys2 e2 q2 => by rw [q] at q2; cases q2; exact kb) kk
      · exact kb
    refine (pe_dcT (own := own) (by have := K.room.un; omega) K.calm (by rw [K.hN]; exact K.hnd) hi (by rw [K.hN, K.hsc]; exact ok) pg (fun s H C cl fp => pts_nil) (fun s H C cl fp => hk _ (bk_of K)) (fun s H C cl fp => he _ (bk_of K)) hs).run pins s σ H Q I ?_
    show tDcT _ (gR X.K tg) _ _ _ _ σ H Q
    rw [K.hK]
    exact dc_hT rfl htg ht hvs rel h kt
end
/-! ### statements -/
theorem ok_setT {a : E} (K : CxV g N sc lv W X) (F : FnV fs X) (hP : POk P c) (htg : tgOk fs sc N c tg = true) (hPt : ∀ j ∈ tgIx tg, j ∉ P) (he : PE X (py a) (tV g c W m1 .sh [])) (hs : swapsWithSole [pyt tg] (py a) p.line X.env = pure false) (hw : swappedStores [pyt tg] (py a) X.env = pure none) :
    PS X (.Assign [pyt tg] (py a) p) (tS g W rt P c (stC .sh tg c) cb (mb m1 fun x => mb (bnd TT tg x) fun _ => mp .nx)) := by
  refine PS.imp (ps_asg he (pg_tg K F tg htg) hs hw (by rw [asg_cons]; rfl)) fun D σ H ⟨e, f, rel, h⟩ => ⟨e, f, rel, at_mono (at_S h) fun d e1 h1 v H1 f1 A r s res => ?_⟩
  have rp := res.rep rfl
  have hA : A = [] := rep_nil rp (fun u z => by cases z) (fun z => by cases z)
  rw [K.hK]
  cases hb : bnd TT tg d e1 with
  | err => simp only [mb, hb] at h1; exact h1.elim
  | exc x xs => exact absurd hb (bnd_noexc tg htg)
  | ok q =>
    obtain ⟨⟨⟩, e2⟩ := q
    simp only [mb, hb] at h1
    have h2 : endS g W rt P c (stC .sh tg c) cb D e σ H f (.ok (.nx, e2)) := h1
    refine bnd_h tg (t := .sh) (B := A) htg (.inl rfl) r (.inl rp) (fun a ha => by rw [hA] at ha; cases ha) hb fun σ2 f2 r2 s2 p2 => ?_
    exact h2 σ2 H1 f2 r2 ((s.S hP).trans (sto_stp hPt s2 fun j hj => (p2 j hj).2))
theorem ok_store {a ie : E} {b : Pt} (K : CxV g N sc lv W X) (hP : POk P c) (hr : rootS c i t0) (he : PE X (py a) (tV g c W m1 u [])) (hb : PE X (pyp b) (tP g c W mp1 i t0 (.ls u))) (hi : PE X (py ie) (tV g (lend c [i]) W m2 .sh [])) (hs : swapsWithSole [.Subscript (pyp b) (py ie) q] (py a) p.line X.env = pure false) (hw : ntE a = true)
    (ha : ∀ v, assign (.Subscript (pyp b) (py ie) q) X.env v = (do
      let ov ← holding [v] (eval (pyp b) X.env)
      let iv ← holding [v, ov] (eval (py ie) X.env)
      standAt q
      holding [v, ov, iv] (setItem ov iv v)
      release [v, ov, iv] [])) : PS X (.Assign [.Subscript (pyp b) (py ie) q] (py a) p) (tS g W rt P c c cb (storeSem m1 mp1 m2)) :=
  PS.imp (ps_asg he (pg_sub hb hi set_list ha) hs (stores_py a hw)) fun D σ H h => store_h hP hr h
theorem assign_sub {o : Expr} {env : Env} {v : Value} : ∀ (ie : E), assign (.Subscript o (py ie) q) env v = (do
      let ov ← holding [v] (eval o env)
      let iv ← holding [v, ov] (eval (py ie) env)
      standAt q
      holding [v, ov, iv] (setItem ov iv v)
      release [v, ov, iv] [])
  | .var .. => rfl
  | .gl .. => rfl
  | .non _ => rfl
  | .bl .. => rfl
  | .int .. => rfl
  | .str .. => rfl
  | .bop .. => rfl
  | .neg .. => rfl
  | .not .. => rfl
  | .and .. => rfl
  | .or .. => rfl
  | .cmp .. => rfl
  | .cmp2 .. => rfl
  | .ife .. => rfl
  | .tup .. => rfl
  | .lst .. => rfl
  | .dct0 _ => rfl
  | .sub .. => rfl
  | .slc .. => rfl
  | .call .. => rfl
  | .b1 .. => rfl
  | .b1r .. => rfl
  | .isi .. => rfl
  | .mut .. => rfl
  | .lk .. => rfl
  | .lc .. => rfl
  | .dc .. => rfl
  | .wrd .. => rfl
  | .frz a => assign_sub a
def locT (env : Env) : Expr → Bool
  | .Name id _ => env.kindOf id == some .local
  | _ => false
theorem fm_lt {α β : Type} {f : α → Option β} : ∀ {l : List α} {t : α}, t ∈ l → f t = none → (l.filterMap f).length < l.length
  | x :: l, t, h, e => by
    rcases List.mem_cons.mp h with z | z
    · subst z
      rw [List.filterMap_cons, e]
      exact Nat.lt_succ_of_le (List.length_filterMap_le f l)
    · have ih := fm_lt z e
      rw [List.filterMap_cons, List.length_cons]
      cases q : f x with
      | none => exact Nat.lt_succ_of_lt ih
      | some y => exact Nat.succ_lt_succ ih
theorem stores_none {ts : List Expr} {k : Nat} {q : Pos} {env : Env} {t : Expr} (ht : t ∈ ts) (hl : locT env t = false) (value : Expr) : swappedStores [.Tuple ts k q] value env = pure none := by
  unfold swappedStores
  cases value <;> try rfl
  rename_i vs k2 q2
  simp only
  split
  · rfl
  · split
    · rfl
    · have lt := fm_lt (f := fun (x : Expr) => match x with
        | .Name id pos => if (env.kindOf id == some .local && pos.line == ((ts.head?.map (·.pos.line)).getD 0)) = true then some id else none
        | _ => none) ht (by
          cases t <;> try rfl
          rename_i id pos
          simp only [locT] at hl
          simp [hl])
      split
      · rfl
      · rename_i hh
        exfalso
        apply hh
        simp only [Bool.or_eq_true, bne_iff_ne]
        exact .inl (Nat.ne_of_lt lt)
theorem ok_store2 {a i1 i2 : E} {b1 b2 : Pt} {qa qb qt : Pos} {j' : Nat} {t0' : Ty} {mp2 : M (Nat × List Dt)} {m3 : M Dt} (K : CxV g N sc lv W X) (hP : POk P c) (hr : rootS c i t0) (hr' : rootS c j' t0') (he : PE X (py a) (tV g c W m1 .sh []))
    (hb1 : PE X (pyp b1) (tP g c W mp1 i t0 (.ls .sh))) (hi1 : PE X (py i1) (tV g (lend c [i]) W m2 .sh [])) (hb2 : PE X (pyp b2) (tP g c W mp2 j' t0' (.ls .sh))) (hi2 : PE X (py i2) (tV g (lend c [j']) W m3 .sh []))
    (hs : swapsWithSole [.Tuple [.Subscript (pyp b1) (py i1) qa, .Subscript (pyp b2) (py i2) qb] 0 qt] (py a) p.line X.env = pure false)
    (ha1 : ∀ v, assign (.Subscript (pyp b1) (py i1) qa) X.env v = (do
      let ov ← holding [v] (eval (pyp b1) X.env)
      let iv ← holding [v, ov] (eval (py i1) X.env)
      standAt qa
      holding [v, ov, iv] (setItem ov iv v)
      release [v, ov, iv] []))
    (ha2 : ∀ v, assign (.Subscript (pyp b2) (py i2) qb) X.env v = (do
      let ov ← holding [v] (eval (pyp b2) X.env)
      let iv ← holding [v, ov] (eval (py i2) X.env)
      standAt qb
      holding [v, ov, iv] (setItem ov iv v)
      release [v, ov, iv] [])) :
    PS X (.Assign [.Tuple [.Subscript (pyp b1) (py i1) qa, .Subscript (pyp b2) (py i2) qb] 0 qt] (py a) p) (tS g W rt P c c cb (mb m1 fun d => mb (st2 mp1 m2 mp2 m3 d) fun _ => mp .nx)) :=
  PS.imp (ps_asg he (pg_tup K.calm (pgs_cons (pg_sub hb1 hi1 set_list ha1) (pgs_cons (pg_sub hb2 hi2 set_list ha2) pgs_nil))) hs (stores_none (t := .Subscript (pyp b1) (py i1) qa) (by simp) rfl _)) fun D σ H h => by
    rw [K.hK]
    exact store2_h hP hr hr' h
theorem ok_par3 {x y z : Str} {a b d : Expr} {px py' pz pt pt2 : Pos} {l : Nat} {T3 : Ty} (K : CxV g N sc lv W X) (hP : POk P c) (hi : i < c.length) (hj : j < c.length) (hl : l < c.length) (hij : i ≠ j) (hil : i ≠ l) (hjl : j ≠ l) (hiP : i ∉ P) (hjP : j ∉ P) (hlP : l ∉ P) (hNi : N[i]? = some x) (hNj : N[j]? = some y) (hNl : N[l]? = some z)
    (hx : sc.names.lookup x = some .local) (hy : sc.names.lookup y = some .local) (hz : sc.names.lookup z = some .local)
    (ha : PA X [a, b, d] (tA g c W l1 [.own T1, .own T2, .own T3] [[], [], []])) (hw : swappedStores [.Tuple [.Name x px, .Name y py', .Name z pz] 0 pt] (.Tuple [a, b, d] 0 pt2) X.env = pure (some [x, y, z])) (hs : swapsWithSole [.Tuple [.Name x px, .Name y py', .Name z pz] 0 pt] (.Tuple [a, b, d] 0 pt2) p.line X.env = pure false) :
    PS X (.Assign [.Tuple [.Name x px, .Name y py', .Name z pz] 0 pt] (.Tuple [a, b, d] 0 pt2) p) (tS g W rt P c (((c.set i (.own T1)).set j (.own T2)).set l (.own T3)) cb (mb l1 fun xs => fun e => .ok (.nx, ((e.set i (xs.getD 0 .none)).set j (xs.getD 1 .none)).set l (xs.getD 2 .none)))) :=
  PS.imp (ps_par3 K.calm (by rw [K.hN]; exact K.hnd) (by rw [K.hN]; exact hNi) (by rw [K.hN]; exact hNj) (by rw [K.hN]; exact hNl) hij hil hjl (by rw [K.hsc]; exact hx) (by rw [K.hsc]; exact hy) (by rw [K.hsc]; exact hz) ha hw hs) fun D σ H h => par3_h hP hi hj hl hij hil hjl hiP hjP hlP h
theorem ok_par {x y : Str} {a b : Expr} {px py' pt pt2 : Pos} (K : CxV g N sc lv W X) (hP : POk P c) (hi : i < c.length) (hj : j < c.length) (hij : i ≠ j) (hiP : i ∉ P) (hjP : j ∉ P) (hNi : N[i]? = some x) (hNj : N[j]? = some y) (hx : sc.names.lookup x = some .local) (hy : sc.names.lookup y = some .local)
    (ha : PA X [a, b] (tA g c W l1 [.own T1, .own T2] [[], []])) (hw : swappedStores [.Tuple [.Name x px, .Name y py'] 0 pt] (.Tuple [a, b] 0 pt2) X.env = pure (some [x, y])) (hs : swapsWithSole [.Tuple [.Name x px, .Name y py'] 0 pt] (.Tuple [a, b] 0 pt2) p.line X.env = pure false) :
    PS X (.Assign [.Tuple [.Name x px, .Name y py'] 0 pt] (.Tuple [a, b] 0 pt2) p) (tS g W rt P c ((c.set i (.own T1)).set j (.own T2)) cb (mb l1 fun xs => fun e => .ok (.nx, (e.set i (xs.getD 0 .none)).set j (xs.getD 1 .none)))) :=
  PS.imp (ps_par K.calm (by rw [K.hN]; exact K.hnd) (by rw [K.hN]; exact hNi) (by rw [K.hN]; exact hNj) hij (by rw [K.hsc]; exact hx) (by rw [K.hsc]; exact hy) ha hw hs) fun D σ H h => par_h hP hi hj hij hiP hjP h
end
end VL


set_option Elab.async false
set_option linter.all false
set_option maxRecDepth 100000
set_option maxHeartbeats 2000000
/-! VL27: a lambda made: what was free ahead is known. -/
namespace VL
open PySem PySem.Spec PyProof.Rows L2 LamX
section
variable {X : Cx} {pins : List (Addr × Obj)} {σ : L2.St} {H : Hp} {s : Shared}
/-- the maker's heap with its table longer and one code object more -/
theorem lam_made {TB : List (Addr × Str)} {c P : Addr} {pr : Arguments} {bd : Expr} {scp : Scope} {pos : Pos} {Er Q : Value → Shared → Prop} (I : Inv X pins σ H s) (tb : TabB X.base X.mg c P) (hcode : X.env.code = .ref c)
    (hin : (P, X.env.qual ++ "<lambda>") ∈ TB) (hun : ∀ p ∈ TB, p.1 = P → p.2 = X.env.qual ++ "<lambda>") (hTB : Tabs TB H) (hdf : defaultsOf pr X.env = ([], [])) (hfr : ∀ y ∈ scp.names, y.2 = .free → ∃ c, X.env.cells.lookup y.1 = some c)
    (go : ∀ (f k : Addr) (pm cv : Value) (G : Hp) (s' : Shared), Inv X pins σ G s' → ExtN H G → (∀ b, G b = none → H b = none) → Tabs TB G →
      s'.heap.get? f = some (PySem.W.kla_obj "<lambda>" (X.env.qual ++ "<lambda>") pr bd scp (cloFrom X.env.cells scp.names []) pm k cv) → G f = none → f ∉ frs X.stack → G k = some (CodeO k (X.env.qual ++ "<lambda>")) → Q (.ref f) s') :
    wpAny (model X.prog X.w) X.A (eval (.Lambda pr bd scp pos) X.env) Q Er s := by
  obtain ⟨tab, eP, tri, told⟩ := hTB _ hin
  have young : ∀ a, s.heap.objs.size ≤ a → a ∉ frs X.stack := fun a ha hm => by
    rcases List.mem_cons.mp (I.stkSub _ hm) with q | q
    · have h1 := I.lt
      rw [← q] at h1
      exact absurd (Nat.lt_of_lt_of_le h1 ha) (Nat.lt_irrefl _)
    · exact I.nofs ha q
  have onP : s.heap.get? P = some { cls := .none, data := .fields tab } := I.hok P _ eP
  refine PySem.W.kla_eval hdf ?_
  cases found : codeAmong pos tab.toList with
  | some cv =>
    obtain ⟨k, rfl, hk⟩ := told pos cv found
    exact PySem.W.kla_makeFunctionHit (mg := X.mg) (c := c) (P := P) (ps := tab) (closure_ok hfr) I.ok.glob (I.mod.glob.keeps I.bk) hcode (tb.code.keeps I.bk) onP tri found (tb.bm.keeps I.bk) fun cv h' tk kp sz =>
      go h'.objs.size k _ cv H _ (I.kept fun b o q => Heap.get?_push_of_some _ (kp b o q)) (ExtN.refl H) (fun _ q => q) hTB (Heap.get?_push_size _ rfl) (I.hok.fresh sz) (young _ sz) hk
  | none =>
    refine PySem.W.kla_makeFunction (mg := X.mg) (c := c) (P := P) (ps := tab) (closure_ok hfr) I.ok.glob (I.mod.glob.keeps I.bk) hcode (tb.code.keeps I.bk) onP tri found tb.gP (tb.bm.keeps I.bk) fun k cv h' tk kp ge lt rc tbn => ?_
    obtain ⟨k2, oc, fs, t, q2, roc, rd, rv⟩ := rc
    cases q2
    have sz : s.heap.objs.size ≤ h'.objs.size := Nat.le_trans ge (Nat.le_of_lt lt)
    have nk : H k = none := I.hok.fresh ge
    generalize hm : (#[rawInt pos.line, rawInt pos.col, Value.ref k] : Array Value) = more at tbn
    have J := inv_table (t' := tk) (more := more) (h' := h'.push (PySem.W.kla_obj "<lambda>" (X.env.qual ++ "<lambda>") pr bd scp (cloFrom X.env.cells scp.names []) ((X.mg "__name__").getD .none) k cv)) I eP
      (fun b o hb q => Heap.get?_push_of_some _ (kp b o hb q)) (Heap.get?_push_of_some _ tbn) ge ⟨oc, fs, t, Heap.get?_push_of_some _ roc, rd, rv⟩
    have ext : ExtN H (upd (upd H P (.tbl (tab ++ more))) k (CodeO k (X.env.qual ++ "<lambda>"))) := fun b o q n => by
      have h1 : b ≠ k := fun z => by rw [z, nk] at q; cases q
      have h2 : b ≠ P := fun z => by rw [z, eP] at q; cases q; exact n _ rfl
      rw [upd_ne h1, upd_ne h2]; exact q
    have free : ∀ b, (upd (upd H P (.tbl (tab ++ more))) k (CodeO k (X.env.qual ++ "<lambda>"))) b = none → H b = none := fun b q => by
      by_cases h1 : b = k
      · rw [h1]; exact nk
      · rw [upd_ne h1] at q
        by_cases h2 : b = P
        · rw [h2, upd_same] at q; cases q
        · rw [upd_ne h2] at q; exact q
    have lst : (tab ++ more).toList = tab.toList ++ [rawInt pos.line, rawInt pos.col, .ref k] := by rw [← hm]; simp
    have pk : P ≠ k := fun z => by rw [z, nk] at eP; cases eP
    refine go h'.objs.size k _ cv _ _ J ext free (fun p hp => ?_) (Heap.get?_push_size _ rfl) ?_ (young _ sz) upd_same
    · obtain ⟨ps, a1, a2, a3⟩ := hTB p hp
      have still : ∀ pos' cv', codeAmong pos' ps.toList = some cv' → ∃ c0, cv' = .ref c0 ∧ (upd (upd H P (.tbl (tab ++ more))) k (CodeO k (X.env.qual ++ "<lambda>"))) c0 = some (CodeO c0 p.2) := fun pos' cv' q => by
        obtain ⟨c0, b1, b2⟩ := a3 pos' cv' q
        exact ⟨c0, b1, ext _ _ b2 codeO_ne⟩
      by_cases hb : p.1 = P
      · have hq := hun p hp hb
        rw [hb, eP] at a1; cases a1
        rw [hq] at still ⊢
        rw [hb]
        refine ⟨tab ++ more, by rw [upd_ne pk, upd_same], by rw [lst]; exact PySem.TriplesOk_snoc _ _ _ _ tri, fun pos' cv' q => ?_⟩
        rw [lst] at q
        rcases among_app _ tri q with z | z
        · exact still pos' cv' z
        · exact ⟨k, z, upd_same⟩
      · have n1 : p.1 ≠ k := fun z => by rw [z, nk] at a1; cases a1
        exact ⟨ps, by rw [upd_ne n1, upd_ne hb]; exact a1, a2, still⟩
    · have n1 : h'.objs.size ≠ k := Nat.ne_of_gt lt
      have n2 : h'.objs.size ≠ P := Nat.ne_of_gt (Nat.lt_of_lt_of_le (Heap.lt_size onP) sz)
      rw [upd_ne n1, upd_ne n2]
      exact I.hok.fresh sz
end
/-- as tLam; what is free behind was free ahead -/
def tLm (TB : List (Addr × Str)) (TT : (XK → Hp → VK → Prop) → Hp → VK → Prop) (t : XK → TE) : TE := fun σ H Q => Tabs TB H ∧ ∀ G, ExtN H G → (∀ b, G b = none → H b = none) → Tabs TB G → TT (fun E H' Q' => t E σ H' Q') G Q
/-- x(lambda: ..) -/
theorem lam_call {X : Cx} {TB : List (Addr × Str)} {TT : (XK → Hp → VK → Prop) → Hp → VK → Prop} {x a : Str} {gA c P : Addr} {k : Nat} {pg : Arguments} {bg : List Stmt} {sg : Scope} {dV kV doc pm cdv ct oc : Value} {an od : Option Addr} {osl : Array (Option Value)} {Ng : List Str}
    {pr : Arguments} {bd : Expr} {scp : Scope} {t : XK → TE} {p lp pos : Pos} (hg : Gl X x) (hm : X.mg x = some (.ref gA)) (hk : PySem.W.keepIn X.K (.ref gA) = true) (lk : X.K.lookup gA = some ⟨oc, od, .func (PySem.W.fnOf x x pg bg sg dV kV doc pm an cdv ct), osl⟩) (hcg : PySem.W.codeIn X.K cdv x = true)
    (hb : L2.Binds X.K (PySem.W.fnOf x x pg bg sg dV kV doc pm an cdv ct) [a] []) (Sg : FnScope Ng [a] sg) (hNg : Ng[0]? = some a) (hva : Vis sg a) (hG : GivesTo X Ng x sg gA cdv bg a (X.env.qual ++ "<lambda>") TT) (tb : TabB X.base X.mg c P) (hcode : X.env.code = .ref c)
    (hin : (P, X.env.qual ++ "<lambda>") ∈ TB) (hun : ∀ q ∈ TB, q.1 = P → q.2 = X.env.qual ++ "<lambda>") (hr : Room (k + 2) X.A) (L : LamS X.env.scope scp) (hdf : defaultsOf pr X.env = ([], []))
    (hbind : ∀ (q : Str) (cl : List (Str × Addr)) (pm cv ctv : Value), bindArgs (PySem.W.kla_fn "<lambda>" q pr bd scp cl pm cv ctv) ⟨[], []⟩ = pure [])
    (hbody : ∀ (A : Around) (outer : List Env) (s : Shared) (H : Hp) (E : XK) (f k' : Addr), Room k (A.deeper (lamEnv X scp s.heap.objs.size f k')) → PE (lamCx X A outer s H E scp f k') bd (t E))
    (hdb : (x == ("__debug__" : Str)) = false) (hd : (a == ("__debug__" : Str)) = false) (hcd : (a == ("__classdict__" : Str)) = false) : PE X (.Call (.Name x p) [.Lambda pr bd scp lp] [] pos) (tLm TB TT t) := by
  refine ⟨fun pins s σ H Q I ⟨hT, want⟩ => ?_⟩
  refine wpAny_Call_Name_kw (ld_glob I hg hm ?_ hdb)
  refine PySem.W.callWith_K (h₀ := X.base) I.ok.mod.kin hk ?_ rfl rfl
  show wpAny _ _ (spliced ((false, eval (.Lambda pr bd scp lp) X.env) :: backTo pos (starEach [] X.env))) _ _ s
  refine Calls.spliced_cons (lam_made I tb hcode hin hun hT hdf (L.has I.ok) fun f c1 pm1 cv1 G s1 J eN eO tG q1 q2 q3 q4 => ?_)
  refine Calls.spliced_nil ⟨J.kIn, ?_⟩
  have ran : codeAny (model X.prog X.w) X.A (.call (.ref gA) ⟨[.ref f], []⟩) (CR C8.CX0 X.stack X.prog X.w G s1 Q C8.E0) s1 := by
    refine run_ofS (N := Ng) (ps := [a]) (us := [.ref f]) (vs := [.ref f]) lk hcg Sg hr J.env0 (hb s1 [.ref f] J.kIn rfl) (.cons rfl .nil) rfl fun hr1 => ?_
    have acts := hG f c1 s1 G Q (fun E H' Q' => t E σ H' Q') (fun W pn xe E p1 p2 tk hW => pe_act (i := 0) J L q1 q2 q3 (hbind _ _ _ _ _) tk hW hr1 (fun A o s H r2 => hbody A o s H E f c1 r2) hNg hva hd hcd) q4 (want G eN eO tG)
    obtain ⟨t1, w1, w2⟩ := acts
    exact ⟨t1, w1.nox, w2⟩
  refine wpAny_call (codeAny_mono ran fun r s2 hq => ?_)
  match r, hq with
  | .error _, hq => exact (show False from hq).elim
  | .ok (.ret u), hq => exact J.after hq
  | .ok .next, hq => exact False.elim hq
  | .ok .brk, hq => exact False.elim hq
  | .ok .cont, hq => exact False.elim hq
end VL


set_option Elab.async false
set_option linter.all false
set_option maxRecDepth 100000
set_option maxHeartbeats 2000000
/-! VL28: a word that a def tells of a thunk. -/
namespace VL
open PySem PySem.Spec PyProof.Rows L2 LamX
/-- what is told: of a value, of an error -/
def TTw (b : B) (wk : Dt → Option Dt) (wx : Str → List Dt → Option Dt) : (XK → Hp → VK → Prop) → Hp → VK → Prop := fun tl H Q =>
  tl (fun cls dd H' => ∃ y ys r, b.exc y ys cls dd H' ∧ wx y ys = some r ∧ ∀ v H'', Same H' H'' → Sh b.K H'' v r → Q v H'') H
    (fun v H' => ∃ T d A, Rv b.K H' T v d A ∧ ∃ r, wk d = some r ∧ ∀ v' H'', Same H' H'' → Sh b.K H'' v' r → Q v' H'')
def allIx (c : Cn) : List Nat := List.range c.length
section
variable {g : G} {c : Cn} {e e' : Ev} {σ : L2.St} {H H1 H2 : Hp} {f f' : Ft}
theorem all_off (i : Nat) : ownS ((lend c (allIx c)).getD i .no) = false := by
  by_cases h : i < c.length
  · exact lend_off (List.mem_range.mpr h)
  · rw [List.getD_eq_getElem?_getD, List.getElem?_eq_none (by rw [lend_len]; omega)]; rfl
/-- all but the tables kept -/
theorem Rel.extN (r : Rel g c e σ H f) (x : ExtN H H1) (t : g.tabs H1) : Rel g c e σ H1 f := by
  refine ⟨r.lenE, r.lenC, fun i sl h n => ?_, r.free, r.dis, t⟩
  obtain ⟨v, h1, h2⟩ := r.at_ i sl h n
  refine ⟨v, h1, h2.mono (fun a o q io => x a o q fun ps z => by subst z; cases io) fun a ha o q => x a o q fun ps z => ?_⟩
  obtain ⟨xs, q'⟩ := h2.foot n a ha
  rw [z, q'] at q; cases q
theorem fr_all (x : Fr (lend c (allIx c)) f H H1) : ExtN H H1 := fun a o h n => x a o h (fun i hi => by rw [all_off] at hi; cases hi) n
theorem stp_of (x : ExtN H H1) (o : ∀ a, H1 a = none → H a = none) : Stp c e H f e H1 f := ⟨fun a ob h _ n => x a ob h n, o, fun i a ho h => .inl ⟨i, ho, h, .inl rfl⟩, fun _ _ => ⟨rfl, fun _ => rfl⟩⟩
theorem ok_word {N : List Str} {sc : Scope} {lv : Nat} {W : WX} {X : Cx} {TB : List (Addr × Str)} {x a : Str} {gA cA PA' : Addr} {k : Nat} {pg : Arguments} {bg : List Stmt} {sg : Scope} {dV kV doc pm cdv ct oc : Value} {an od : Option Addr} {osl : Array (Option Value)} {Ng : List Str}
    {pr : Arguments} {bd : Expr} {scp : Scope} {p lp pos : Pos} {m1 : M Dt} {T : Ty} {S : List Nat} {wk : Dt → Option Dt} {wx : Str → List Dt → Option Dt} (K : CxV g N sc lv W X) (ht : ∀ H, g.tabs H ↔ Tabs TB H)
    (hg : glB sc x = true) (hm : X.mg x = some (.ref gA)) (hk : PySem.W.keepIn X.K (.ref gA) = true) (lk : X.K.lookup gA = some ⟨oc, od, .func (PySem.W.fnOf x x pg bg sg dV kV doc pm an cdv ct), osl⟩) (hcg : PySem.W.codeIn X.K cdv x = true)
    (hb : L2.Binds X.K (PySem.W.fnOf x x pg bg sg dV kV doc pm an cdv ct) [a] []) (Sg : FnScope Ng [a] sg) (hNg : Ng[0]? = some a) (hva : Vis sg a) (hG : GivesTo X Ng x sg gA cdv bg a (X.env.qual ++ "<lambda>") (TTw g.toB wk wx)) (tb : TabB X.base X.mg cA PA') (hcode : X.env.code = .ref cA)
    (hin : (PA', X.env.qual ++ "<lambda>") ∈ TB) (hun : ∀ q ∈ TB, q.1 = PA' → q.2 = X.env.qual ++ "<lambda>") (hr : Room (k + 2) X.A) (L : LamS X.env.scope scp) (hdf : defaultsOf pr X.env = ([], []))
    (hbind : ∀ (q : Str) (cl : List (Str × Addr)) (pm cv ctv : Value), bindArgs (PySem.W.kla_fn "<lambda>" q pr bd scp cl pm cv ctv) ⟨[], []⟩ = pure [])
    (hbody : ∀ (A : Around) (outer : List Env) (s : Shared) (H : Hp) (E : XK) (f k' : Addr), Room k (A.deeper (lamEnv X scp s.heap.objs.size f k')) → PE (lamCx X A outer s H E scp f k') bd (tV g (lend c (allIx c)) (fun cls d _ H' => E cls d H') m1 T S))
    (hdb : (x == ("__debug__" : Str)) = false) (hd : (a == ("__debug__" : Str)) = false) (hcd : (a == ("__classdict__" : Str)) = false) :
    PE X (.Call (.Name x p) [.Lambda pr bd scp lp] [] pos) (tV g c W (fun e => match m1 e with
      | .ok (d, _) => mo (wk d) e
      | .exc y ys => mo (wx y ys) e
      | .err => .err) .sh []) := by
  refine PE.imp (lam_call (gl_of K hg) hm hk lk hcg hb Sg hNg hva hG tb hcode hin hun hr L hdf hbind hbody hdb hd hcd) fun σ H Q h => ?_
  obtain ⟨e, f, rel, h⟩ := h
  refine ⟨(ht H).mp rel.tabs, fun G eN eO tG => ?_⟩
  have relG := rel.extN eN ((ht G).mpr tG)
  have relL := relG.lend (allIx c)
  refine ⟨e, f, relL, ?_⟩
  unfold at_ at h ⊢
  dsimp only at h
  cases q : m1 e with
  | err => rw [q] at h; exact h
  | exc y ys =>
    rw [q] at h
    dsimp only at h ⊢
    cases hw : wx y ys with
    | none => simp only [hw, mo] at h
    | some r =>
      simp only [hw, mo] at h
      intro cls dd H' hx hfr hold tbl
      refine ⟨y, ys, r, hx, hw, fun v H'' same sh => ?_⟩
      have eX := fr_all hfr
      have tb' : g.tabs H'' := g.tm _ _ (fun a o q _ _ => same a o q) tbl
      have xx : ExtN H H'' := fun b o q n => same b o (eX b o (eN b o q n) n)
      exact h v H'' f [] (rel.extN xx tb') (stp_of xx fun b z => eO b (hold b (same.free z))) ⟨.inl (.sh sh), fun _ => .sh sh, (fun _ z => by cases z), fun _ _ _ _ z => by cases z⟩
  | ok r =>
    obtain ⟨d, e'⟩ := r
    rw [q] at h
    dsimp only at h ⊢
    intro v H' f' A r' s' res
    cases hw : wk d with
    | none => simp only [hw, mo] at h
    | some r =>
      simp only [hw, mo] at h
      refine ⟨T, d, A, res.rv, r, hw, fun v' H'' same sh => ?_⟩
      have eX := fr_all s'.fr
      have tb' : g.tabs H'' := g.tm _ _ (fun a o q _ _ => same a o q) r'.tabs
      have xx : ExtN H H'' := fun b o q n => same b o (eX b o (eN b o q n) n)
      exact h v' H'' f [] (rel.extN xx tb') (stp_of xx fun b z => eO b (s'.old b (same.free z))) ⟨.inl (.sh sh), fun _ => .sh sh, (fun _ z => by cases z), fun _ _ _ _ z => by cases z⟩
end
end VL


set_option Elab.async false
set_option linter.all false
set_option maxRecDepth 100000
set_option maxHeartbeats 1000000
/-! VL21: a text's check. -/
namespace VL
open PySem PySem.Spec PyProof.Rows L2
structure Sg where
  TT : List Fn
  GT : List (Str × Int)
  N : List Str
  lv : Nat
  WL : List Nat
def blkB (N : List Str) (sc scope : Scope) (own : List (Str × Nat)) : Bool :=
  decide (scope.kind = .function) && scope.names.all (fun y => scope.names.lookup y.1 == some y.2) && own.all (fun p => N[p.2]? == some p.1)
    && scope.names.all (fun y => !(y.2 == .free) || (sc.names.lookup y.1 == some .cell || sc.names.lookup y.1 == some .free))
    && scope.names.all (fun y => !(y.2 == .local || y.2 == .cell) || ((own.map (·.1)).contains y.1 || !N.contains y.1))
def isNm : Tg → Bool
  | .nm .. => true
  | _ => false
def isTp : Tg → Bool
  | .tp .. => true
  | _ => false
/-- pairs are taken apart -/
def itOk : It → Tg → Bool
  | .enu .., t => isTp t
  | .zip .., t => isTp t
  | _, _ => true
def Es.len : Es → Nat
  | .nil => 0
  | .cons _ r => r.len + 1
def refOkB (ps : List Sl) (Ss : List (List Nat)) : Bool :=
  (List.range ps.length).all fun k => (List.range Ss.length).all fun l => k == l || match ps[k]?, Ss[k]?, Ss[l]? with
    | some (.ref _), some [i], some S => !S.contains i
    | _, _, _ => true
/-- in a lambda's body -/
def Sg.lam (s : Sg) : Sg := { s with lv := s.lv - 2, WL := [] }
/-- in a comprehension -/
def Sg.blk (s : Sg) : Sg := { s with WL := [] }
mutual
def tyE (s : Sg) (sc fs : Scope) (c : Cn) : E → Option (Ty × List Nat)
  | .var x i _ => match c[i]? with
    | some sl => if sl ≠ .no ∧ s.N[i]? = some x ∧ visB sc x = true ∧ nmB x = true then some (tyOf sl, aliS sl i) else none
    | none => none
  | .gl x (.int n) _ => if s.GT.lookup x = some n ∧ glB sc x = true ∧ (x == ("__debug__" : Str)) = false then some (.sh, []) else none
  | .gl _ _ _ => none
  | .non _ => some (.sh, [])
  | .bl _ _ => some (.sh, [])
  | .int _ _ => some (.sh, [])
  | .str _ _ => some (.sh, [])
  | .bop t _ a b _ => match tyE s sc fs c a with
    | some (T1, S1) => (match tyE s sc fs (lend c S1) b with
      | some (T2, _) => if flatT T1 = true ∧ flatT T2 = true then some (t, []) else none
      | none => none)
    | none => none
  | .neg a _ => match tyE s sc fs c a with
    | some (.sh, _) => some (.sh, [])
    | _ => none
  | .not a _ => match tyE s sc fs c a with
    | some (T1, _) => if flatT T1 = true then some (.sh, []) else none
    | none => none
  | .and es _ => if es.isNil = false ∧ tyL s sc fs c .sh es = true then some (.sh, []) else none
  | .or es _ => if es.isNil = false ∧ tyL s sc fs c .sh es = true then some (.sh, []) else none
  | .cmp _ a b _ => match tyE s sc fs c a with
    | some (T1, S1) => (match tyE s sc fs (lend c S1) b with
      | some (T2, _) => if flatT T1 = true ∧ flatT T2 = true then some (.sh, []) else none
      | none => none)
    | none => none
  | .cmp2 _ _ a b d _ => match tyE s sc fs c a, tyE s sc fs c b, tyE s sc fs c d with
    | some (.sh, []), some (.sh, []), some (T3, _) => if flatT T3 = true then some (.sh, []) else none
    | _, _, _ => none
  | .ife t a b _ => match tyE s sc fs c a with
    | some r => if tyT s sc fs c t = true ∧ tyE s sc fs c b = some r then some r else none
    | none => none
  | .tup es _ => if tyL s sc fs c .sh es = true then some (.sh, []) else none
  | .lst t es _ => if tyL s sc fs c t es = true then some (.ls t, []) else none
  | .dct0 _ => some (.sh, [])
  | .sub a i _ => match tyE s sc fs c a with
    | some (T1, S1) => if tyE s sc fs (lend c S1) i = some (.sh, []) ∧ itTy T1 ≠ .ks ∧ (itTy T1 = .sh ∨ S1 ≠ []) then some (itTy T1, match itTy T1 with | .ls _ => S1 | _ => []) else none
    | none => none
  | .slc t a lo hi _ _ => match tyE s sc fs c a with
    | some (T1, S1) => if (flatT T1 = true ∨ T1 = .ks) ∧ tyO s sc fs (lend c S1) lo = true ∧ tyO s sc fs (lend c S1) hi = true then some (t, []) else none
    | none => none
  | .call j x es _ _ => match s.TT[j]? with
    | some F => (match tyA s sc fs c F.ps es with
      | some Ss => if F.nm = x ∧ glB sc x = true ∧ F.lev ≤ s.lv ∧ F.lev ≤ 100000 ∧ refOkB F.ps Ss = true then some (F.rt, []) else none
      | none => none)
    | none => none
  | .b1 f a _ _ => match tyE s sc fs c a with
    | some (T1, _) => if (flatT T1 = true ∨ T1 = .ks) ∧ glB sc (Str.ofString f.name) = true then some (f.ty, []) else none
    | none => none
  | .b1r f es _ _ _ _ => if rgF f = true ∧ (es.len = 1 ∨ es.len = 2) ∧ tyL s sc fs c .sh es = true ∧ glB sc (Str.ofString f.name) = true ∧ glB sc (Str.ofString "range") = true then some (f.ty, []) else none
  | .isi a i _ _ _ => match tyE s sc fs c a with
    | some (T1, _) => if (flatT T1 = true ∨ T1 = .ks) ∧ glB sc (Str.ofString "isinstance") = true ∧ glB sc (Str.ofString i.name) = true then some (.sh, []) else none
    | none => none
  | .mut .append b (.cons a .nil) q p => match tyP s sc fs c b with
    | some (i, _, .ls u) => if tyE s sc fs (lend c [i]) a = some (u, []) ∧ (q.endLine == p.line) = true then some (.sh, []) else none
    | _ => none
  | .mut .extend b (.cons a .nil) q p => match tyP s sc fs c b with
    | some (i, _, .ls .sh) => (match tyE s sc fs (lend c [i]) a with
      | some (T2, _) => if flatT T2 = true ∧ (q.endLine == p.line) = true then some (.sh, []) else none
      | none => none)
    | _ => none
  | .mut .pop b .nil q p => match tyP s sc fs c b with
    | some (_, _, .ls .sh) => if (q.endLine == p.line) = true then some (.sh, []) else none
    | _ => none
  | .mut .pop b (.cons a .nil) q p => match tyP s sc fs c b with
    | some (i, _, .ls .sh) => if tyE s sc fs (lend c [i]) a = some (.sh, []) ∧ (q.endLine == p.line) = true then some (.sh, []) else none
    | _ => none
  | .mut _ _ _ _ _ => none
  | .lk _ _ _ _ _ => none
  | .lc tg it k a own scp _ => match tyI s sc fs c it with
    | some (T1, S1) => (match tyE s.blk (relS scp sc) scp (stC T1 tg (blank (own.map (·.2)) (lend c S1))) a with
      | some (T, []) => if tgOk scp (relS scp sc) s.N (blank (own.map (·.2)) (lend c S1)) tg = true ∧ (T1 = .sh ∨ isNm tg = true) ∧ ((tgIx tg).all fun j => (own.map (·.2)).contains j) = true ∧ blkB s.N sc scp own = true
          ∧ tyC s.blk (relS scp sc) scp (stC T1 tg (blank (own.map (·.2)) (lend c S1))) k = true ∧ itOk it tg = true then some (.ls T, []) else none
      | _ => none)
    | none => none
  | .dc tg it k v own scp _ => match tyI s sc fs c it with
    | some (T1, S1) => if tgOk scp (relS scp sc) s.N (blank (own.map (·.2)) (lend c S1)) tg = true ∧ (T1 = .sh ∨ isNm tg = true) ∧ ((tgIx tg).all fun j => (own.map (·.2)).contains j) = true ∧ blkB s.N sc scp own = true
          ∧ tyE s.blk (relS scp sc) scp (stC T1 tg (blank (own.map (·.2)) (lend c S1))) k = some (.sh, []) ∧ tyE s.blk (relS scp sc) scp (stC T1 tg (blank (own.map (·.2)) (lend c S1))) v = some (.sh, []) ∧ itOk it tg = true then some (.sh, []) else none
    | none => none
  | .wrd j x a scp _ _ _ => match s.TT[j]? with
    | some F => (match tyE s.lam scp scp (lend c (allIx c)) a with
      | some _ => if F.nm = x ∧ s.WL.contains j = true ∧ glB sc x = true ∧ 2 ≤ s.lv ∧ LamX.lamSB sc scp = true then some (.sh, []) else none
      | none => none)
    | none => none
  | .frz a => match tyE s sc fs c a with
    | some (.ls T, []) => if noKs T = true then some (.sh, []) else none
    | _ => none
def tyT (s : Sg) (sc fs : Scope) (c : Cn) : E → Bool
  | .and es _ => !es.isNil && tyB s sc fs c es
  | .or es _ => !es.isNil && tyB s sc fs c es
  | .not a _ => tyT s sc fs c a
  | .cmp _ a b _ => match tyE s sc fs c a with
    | some (T1, S1) => (match tyE s sc fs (lend c S1) b with
      | some (T2, _) => flatT T1 && flatT T2
      | none => false)
    | none => false
  | .cmp2 _ _ a b d _ => match tyE s sc fs c a, tyE s sc fs c b, tyE s sc fs c d with
    | some (.sh, []), some (.sh, []), some (T3, _) => flatT T3
    | _, _, _ => false
  | .var x i _ => match c[i]? with
    | some sl => decide (sl ≠ .no ∧ s.N[i]? = some x ∧ visB sc x = true ∧ nmB x = true ∧ flatT (tyOf sl) = true)
    | none => false
  | .isi a i _ _ _ => match tyE s sc fs c a with
    | some (T1, _) => decide ((flatT T1 = true ∨ T1 = .ks) ∧ glB sc (Str.ofString "isinstance") = true ∧ glB sc (Str.ofString i.name) = true)
    | none => false
  | .call j x es _ _ => match s.TT[j]? with
    | some F => (match tyA s sc fs c F.ps es with
      | some Ss => decide (F.nm = x ∧ glB sc x = true ∧ F.lev ≤ s.lv ∧ F.lev ≤ 100000 ∧ refOkB F.ps Ss = true ∧ flatT F.rt = true)
      | none => false)
    | none => false
  | .b1 f a _ _ => match tyE s sc fs c a with
    | some (T1, _) => decide ((flatT T1 = true ∨ T1 = .ks) ∧ glB sc (Str.ofString f.name) = true ∧ flatT f.ty = true)
    | none => false
  | _ => false
def tyB (s : Sg) (sc fs : Scope) (c : Cn) : Es → Bool
  | .nil => true
  | .cons a r => tyT s sc fs c a && tyB s sc fs c r
def tyL (s : Sg) (sc fs : Scope) (c : Cn) (t : Ty) : Es → Bool
  | .nil => true
  | .cons a r => decide (tyE s sc fs c a = some (t, [])) && tyL s sc fs c t r
def tyA (s : Sg) (sc fs : Scope) (c : Cn) : List Sl → Es → Option (List (List Nat))
  | [], .nil => some []
  | .own t :: ps, .cons a r => if tyE s sc fs c a = some (t, []) then (tyA s sc fs c ps r).map ([] :: ·) else none
  | .bor t :: ps, .cons a r => match tyE s sc fs c a with
    | some (T, S) => if T = t then (tyA s sc fs (lend c S) ps r).map (S :: ·) else none
    | none => none
  | .ref t :: ps, .cons (.var x i _) r => if (c[i]? = some (.own t) ∨ c[i]? = some (.ref t)) ∧ s.N[i]? = some x ∧ visB sc x = true ∧ nmB x = true then (tyA s sc fs c ps r).map ([i] :: ·) else none
  | _, _ => none
def tyO (s : Sg) (sc fs : Scope) (c : Cn) : Oe → Bool
  | .none => true
  | .some a => decide (tyE s sc fs c a = some (.sh, []))
def tyC (s : Sg) (sc fs : Scope) (c : Cn) : Oe → Bool
  | .none => true
  | .some a => tyT s sc fs c a
def tyI (s : Sg) (sc fs : Scope) (c : Cn) : It → Option (Ty × List Nat)
  | .of a => (tyE s sc fs c a).map fun r => (itTy r.1, r.2)
  | .rng es _ _ => if (es.len = 1 ∨ es.len = 2) ∧ tyL s sc fs c .sh es = true ∧ glB sc (Str.ofString "range") = true then some (.sh, []) else none
  | .enu a _ _ => match tyE s sc fs c a with
    | some (T1, S1) => if itTy T1 = .sh ∧ glB sc (Str.ofString "enumerate") = true then some (.sh, S1) else none
    | none => none
  | .zip a b _ _ => match tyE s sc fs c a with
    | some (T1, S1) => (match tyE s sc fs (lend c S1) b with
      | some (T2, S2) => if itTy T1 = .sh ∧ itTy T2 = .sh ∧ glB sc (Str.ofString "zip") = true then some (.sh, S1 ++ S2) else none
      | none => none)
    | none => none
def tyP (s : Sg) (sc fs : Scope) (c : Cn) : Pt → Option (Nat × Ty × Ty)
  | .nm x i _ => match c[i]? with
    | some (.own t) => if s.N[i]? = some x ∧ visB sc x = true ∧ nmB x = true then some (i, t, t) else none
    | some (.ref t) => if s.N[i]? = some x ∧ visB sc x = true ∧ nmB x = true then some (i, t, t) else none
    | _ => none
  | .ix b ie _ => match tyP s sc fs c b with
    | some (i, t0, .ls t) => if tyE s sc fs (lend c [i]) ie = some (.sh, []) then some (i, t0, t) else none
    | _ => none
end
end VL


set_option Elab.async false
set_option linter.all false
set_option maxRecDepth 100000
set_option maxHeartbeats 2000000
/-! VL22: the check is right. -/
namespace VL
open PySem PySem.Spec PyProof.Rows L2
/-- a def that tells words: as data -/
def oR (o : Option Dt) : R (Dt × List Dt) := match o with
  | some r => .ok (r, [])
  | none => .err
def wdSem (wk : Dt → Option Dt) (wx : Str → List Dt → Option Dt) : List Dt → R (Dt × List Dt)
  | [.tuple [.none, d]] => oR (wk d)
  | [.tuple (.str y :: ys)] => oR (wx y ys)
  | _ => .err
/-- what must be known of such a def where it is called with a thunk -/
def WdOk (g : G) (X : Cx) (F : Fn) : Prop := ∃ (wk : Dt → Option Dt) (wx : Str → List Dt → Option Dt) (TB : List (Addr × Str)) (a : Str) (gA cA PA' : Addr) (pg : Arguments) (bg : List Stmt) (sg : Scope) (dV kV doc pm cdv ct oc : Value) (an od : Option Addr) (osl : Array (Option Value)) (Ng : List Str),
  F.sem = wdSem wk wx ∧ (∀ H, g.tabs H ↔ LamX.Tabs TB H) ∧ X.mg F.nm = some (.ref gA) ∧ PySem.W.keepIn X.K (.ref gA) = true ∧ X.K.lookup gA = some ⟨oc, od, .func (PySem.W.fnOf F.nm F.nm pg bg sg dV kV doc pm an cdv ct), osl⟩ ∧ PySem.W.codeIn X.K cdv F.nm = true ∧
  L2.Binds X.K (PySem.W.fnOf F.nm F.nm pg bg sg dV kV doc pm an cdv ct) [a] [] ∧ FnScope Ng [a] sg ∧ Ng[0]? = some a ∧ Vis sg a ∧ (∀ q, LamX.GivesTo X Ng F.nm sg gA cdv bg a q (TTw g.toB wk wx)) ∧ LamX.TabB X.base X.mg cA PA' ∧ X.env.code = .ref cA ∧
  (PA', X.env.qual ++ "<lambda>") ∈ TB ∧ (∀ q ∈ TB, q.1 = PA' → q.2 = X.env.qual ++ "<lambda>") ∧ (F.nm == ("__debug__" : Str)) = false ∧ (a == ("__debug__" : Str)) = false ∧ (a == ("__classdict__" : Str)) = false
structure Ok (s : Sg) (g : G) (X : Cx) : Prop where
  fns : ∀ (j : Nat) (F : Fn) (k : Nat), s.TT[j]? = some F → F.lev ≤ k → F.lev ≤ 100000 → ∃ ad fd pn, FnOk X.prog X.w X.K X.mg X.base (L2.CX X.prog X.w) k ad fd pn (spV g.toB F) ∧ X.mg F.nm = some (.ref ad) ∧ PySem.W.keepIn X.K (.ref ad) = true ∧ Binds X.K fd pn [] ∧ (F.nm == ("__debug__" : Str)) = false
  gls : ∀ (x : Str) (n : Int), s.GT.lookup x = some n → ∃ tk, X.mg x = some (.int n tk)
  wds : ∀ (j : Nat) (F : Fn), s.WL.contains j = true → s.TT[j]? = some F → WdOk g X F
theorem Ok.blk {s : Sg} {g : G} {X Y : Cx} {N : List Str} {sc scp : Scope} {lv : Nat} (o : Ok s g X) (b : BK g N sc scp lv X Y) : Ok s.blk g Y := by
  obtain ⟨_, _, e1, e2, e3, e4, e5, _⟩ := b
  exact ⟨fun j F k h1 h2 h3 => by rw [e1, e2, e3, e4, e5]; exact o.fns j F k h1 h2 h3, fun x n h => by rw [e4]; exact o.gls x n h, fun j F h => by simp [Sg.blk] at h⟩
theorem Ok.lam {s : Sg} {g : G} {X : Cx} (o : Ok s g X) {A : Around} {outer : List Env} {s1 : Shared} {H : Hp} {E : XK} {scp : Scope} {f c' : Addr} : Ok s.lam g (LamX.lamCx X A outer s1 H E scp f c') :=
  ⟨o.fns, o.gls, fun j F h => by simp [Sg.lam] at h⟩
theorem blk_ok {N : List Str} {sc scope : Scope} {own : List (Str × Nat)} (h : blkB N sc scope own = true) : BlkOk N sc scope own := by
  unfold blkB at h
  simp only [Bool.and_eq_true, decide_eq_true_eq, List.all_eq_true, beq_iff_eq, Bool.or_eq_true, Bool.not_eq_true', List.contains_eq_mem] at h
  obtain ⟨⟨⟨⟨h1, h2⟩, h3⟩, h4⟩, h5⟩ := h
  refine ⟨h1, h2, h3, fun y hy e => ?_, fun y hy e => ?_⟩
  · rcases h4 y hy with z | z
    · rw [e] at z; exact absurd z (by decide)
    · exact z
  · rcases h5 y hy with z | z | z
    · rcases e with e | e <;> (rw [e] at z; exact absurd z (by decide))
    · exact .inl (by simpa using z)
    · exact .inr (by simpa using z)
theorem nm_ok {tg : Tg} {T : Ty} (h : T = .sh ∨ isNm tg = true) : T = .sh ∨ ∃ x i p, tg = .nm x i p := by
  rcases h with h | h
  · exact .inl h
  · cases tg <;> simp [isNm] at h
    exact .inr ⟨_, _, _, rfl⟩
theorem refOk_of {ps : List Sl} {Ss : List (List Nat)} (h : refOkB ps Ss = true) : refOk ps Ss := by
  unfold refOkB at h
  simp only [List.all_eq_true, List.mem_range, Bool.or_eq_true, beq_iff_eq] at h
  intro k l hkl i t S h1 h2 h3
  have hk : k < ps.length := (List.getElem?_eq_some_iff.mp h1).1
  have hl : l < Ss.length := (List.getElem?_eq_some_iff.mp h3).1
  rcases h k hk l hl with z | z
  · exact absurd z hkl
  · rw [h1, h2, h3] at z
    simpa using z
section
variable {s : Sg}
theorem tyA_nil {s : Sg} {sc fs : Scope} {c : Cn} {ps : List Sl} {Ss : List (List Nat)} (h : tyA s sc fs c ps .nil = some Ss) : ps = [] ∧ Ss = [] := by
  cases ps with
  | nil => simp only [tyA, Option.some.injEq] at h; exact ⟨rfl, h.symm⟩
  | cons p ps => cases p <;> simp [tyA] at h
theorem tyA_outs {fs : Scope} : ∀ (ps : List Sl) {sc : Scope} {c : Cn} {es : Es} {Ss : List (List Nat)} (k : Nat), tyA s sc fs c ps es = some Ss → outSlots ps es k = outsOf ps Ss k := by
  intro ps
  induction ps with
  | nil =>
    intro sc c es Ss k h
    cases es with
    | nil => rfl
    | cons a r => simp [tyA] at h
  | cons p ps ih =>
    intro sc c es Ss k h
    cases es with
    | nil => cases p <;> simp [tyA] at h
    | cons a r =>
      cases p with
      | no => simp [tyA] at h
      | own t =>
        simp only [tyA] at h
        split at h
        · simp only [Option.map_eq_some_iff] at h
          obtain ⟨S2, h1, rfl⟩ := h
          exact ih (k + 1) h1
        · cases h
      | bor t =>
        simp only [tyA] at h
        split at h
        · split at h
          · simp only [Option.map_eq_some_iff] at h
            obtain ⟨S2, h1, rfl⟩ := h
            exact ih (k + 1) h1
          · cases h
        · cases h
      | ref t =>
        cases a with
        | var x i p =>
          simp only [tyA] at h
          split at h
          · simp only [Option.map_eq_some_iff] at h
            obtain ⟨S2, h1, rfl⟩ := h
            simp only [outSlots, outsOf]
            rw [ih (k + 1) h1]
          · cases h
        | _ => simp [tyA] at h
theorem evs_len {TT : List Fn} : ∀ (es : Es) {e e' : Ev} {ds : List Dt}, evs TT es e = .ok (ds, e') → ds.length = es.len
  | .nil, e, e', ds, h => by simp only [evs, mp, R.ok.injEq, Prod.mk.injEq] at h; rw [← h.1]; rfl
  | .cons a r, e, e', ds, h => by
    simp only [evs, mb] at h
    cases h1 : ev TT a e with
    | err => rw [h1] at h; cases h
    | exc x xs => rw [h1] at h; cases h
    | ok q =>
      obtain ⟨d, e1⟩ := q
      rw [h1] at h
      simp only at h
      cases h2 : evs TT r e1 with
      | err => rw [h2] at h; cases h
      | exc x xs => rw [h2] at h; cases h
      | ok q =>
        obtain ⟨ds1, e2⟩ := q
        rw [h2] at h
        simp only [mp, R.ok.injEq, Prod.mk.injEq] at h
        rw [← h.1]
        simp only [List.length_cons, Es.len]
        rw [evs_len r h2]
end
section
variable {g : G} {W : WX} {X : Cx} {c : Cn} {sc : Scope} {N : List Str} {lv : Nat} {T1 : Ty} {p q : Pos} {a : Expr}
theorem tru_b1 {f : B1} {m1 : M Dt} : (mb m1 fun x => mo ((apB1 f x).bind truD)) = mb (mb m1 fun x => mo (apB1 f x)) fun x => mo (truD x) := by
  funext e
  unfold mb
  cases m1 e with
  | err => rfl
  | exc x xs => rfl
  | ok r =>
    obtain ⟨d, e1⟩ := r
    simp only [mo]
    cases apB1 f d with
    | none => rfl
    | some z => rfl
end
section
variable {s : Sg} {g : G}
theorem sem_call {j : Nat} {x : Str} {es : Es} {q p : Pos} {F : Fn} {os : List (Nat × Nat)} (hj : s.TT[j]? = some F) (ho : outSlots F.ps es 0 = os) : ev s.TT (.call j x es q p) = mb (evsA s.TT es F.ps) fun xs => semCall F os xs := by
  show (match s.TT[j]? with
      | some f => mb (evsA s.TT es f.ps) fun xs e =>
        (match f.sem xs with
         | .ok (d, outs) => .ok (d, setOuts outs (outSlots f.ps es 0) e)
         | .exc c ys => .exc c ys
         | .err => .err)
      | none => fun _ => .err) = _
  rw [hj, ← ho]
  rfl
theorem tst_call {j : Nat} {x : Str} {es : Es} {q p : Pos} : tst s.TT (.call j x es q p) = mb (ev s.TT (.call j x es q p)) fun x => mo (truD x) := rfl
end
section
variable {g : G}
mutual
theorem sE : ∀ (a : E) {s : Sg} {sc fs : Scope} {c : Cn} {W : WX} {X : Cx} {T : Ty} {S : List Nat}, CxV g s.N sc s.lv W X → Ok s g X → tyE s sc fs c a = some (T, S) → PE X (py a) (tV g c W (ev s.TT a) T S)
  | .var x i p, s, sc, fs, c, W, X, T, S, K, O, h => by
    simp only [tyE] at h
    split at h
    · rename_i sl hc
      split at h
      · rename_i hh
        cases h
        exact ok_var K hc hh.1 hh.2.1 hh.2.2.1 hh.2.2.2
      · cases h
    · cases h
  | .gl x d p, s, sc, fs, c, W, X, T, S, K, O, h => by
    cases d with
    | int n =>
      simp only [tyE] at h
      split at h
      · rename_i hh
        cases h
        obtain ⟨tk, hm⟩ := O.gls x n hh.1
        exact ok_gli K hh.2.1 hm hh.2.2
      · cases h
    | _ => simp [tyE] at h
  | .non p, s, sc, fs, c, W, X, T, S, K, O, h => by simp only [tyE, Option.some.injEq, Prod.mk.injEq] at h; obtain ⟨rfl, rfl⟩ := h; exact ok_non
  | .bl b p, s, sc, fs, c, W, X, T, S, K, O, h => by simp only [tyE, Option.some.injEq, Prod.mk.injEq] at h; obtain ⟨rfl, rfl⟩ := h; exact ok_bl
  | .int n p, s, sc, fs, c, W, X, T, S, K, O, h => by simp only [tyE, Option.some.injEq, Prod.mk.injEq] at h; obtain ⟨rfl, rfl⟩ := h; exact ok_int
  | .str z p, s, sc, fs, c, W, X, T, S, K, O, h => by simp only [tyE, Option.some.injEq, Prod.mk.injEq] at h; obtain ⟨rfl, rfl⟩ := h; exact ok_str
  | .bop t o a b p, s, sc, fs, c, W, X, T, S, K, O, h => by
    simp only [tyE] at h
    split at h
    · rename_i T1 S1 ha
      split at h
      · rename_i T2 S2 hb
        split at h
        · rename_i hh
          cases h
          exact ok_bop K (sE a K O ha) (sE b K O hb) hh.1 hh.2
        · cases h
      · cases h
    · cases h
  | .neg a p, s, sc, fs, c, W, X, T, S, K, O, h => by
    simp only [tyE] at h
    split at h
    · rename_i S1 ha
      cases h
      exact ok_neg (sE a K O ha)
    · cases h
  | .not a p, s, sc, fs, c, W, X, T, S, K, O, h => by
    simp only [tyE] at h
    split at h
    · rename_i T1 S1 ha
      split at h
      · rename_i hh
        cases h
        exact ok_not K (sE a K O ha) hh
      · cases h
    · cases h
  | .and es p, s, sc, fs, c, W, X, T, S, K, O, h => by
    simp only [tyE] at h
    split at h
    · rename_i hh
      cases h
      exact sAnd es K O hh.1 hh.2
    · cases h
  | .or es p, s, sc, fs, c, W, X, T, S, K, O, h => by
    simp only [tyE] at h
    split at h
    · rename_i hh
      cases h
      exact sOr es K O hh.1 hh.2
    · cases h
  | .cmp o a b p, s, sc, fs, c, W, X, T, S, K, O, h => by
    simp only [tyE] at h
    split at h
    · rename_i T1 S1 ha
      split at h
      · rename_i T2 S2 hb
        split at h
        · rename_i hh
          cases h
          exact ok_cmp K (sE a K O ha) (sE b K O hb) hh.1 hh.2 (behind_py b)
        · cases h
      · cases h
    · cases h
  | .cmp2 o o' a b d p, s, sc, fs, c, W, X, T, S, K, O, h => by
    simp only [tyE] at h
    split at h
    · rename_i T3 S3 ha hb hd
      split at h
      · rename_i hh
        cases h
        exact ok_cmp2 K (sE a K O ha) (sE b K O hb) (sE d K O hd) hh (behind_py d)
      · cases h
    · cases h
  | .ife t a b p, s, sc, fs, c, W, X, T, S, K, O, h => by
    simp only [tyE] at h
    split at h
    · rename_i r ha
      split at h
      · rename_i hh
        cases h
        exact ok_ife (sT t K O hh.1) (sE a K O ha) (sE b K O hh.2)
      · cases h
    · cases h
  | .tup es p, s, sc, fs, c, W, X, T, S, K, O, h => by
    simp only [tyE] at h
    split at h
    · rename_i hh
      cases h
      exact ok_tup (sL es K O hh)
    · cases h
  | .lst t es p, s, sc, fs, c, W, X, T, S, K, O, h => by
    simp only [tyE] at h
    split at h
    · rename_i hh
      cases h
      exact ok_lst (sL es K O hh)
    · cases h
  | .dct0 p, s, sc, fs, c, W, X, T, S, K, O, h => by simp only [tyE, Option.some.injEq, Prod.mk.injEq] at h; obtain ⟨rfl, rfl⟩ := h; exact ok_dct0
  | .sub a i p, s, sc, fs, c, W, X, T, S, K, O, h => by
    simp only [tyE] at h
    split at h
    · rename_i T1 S1 ha
      split at h
      · rename_i hh
        cases h
        exact ok_sub K (sE a K O ha) (sE i K O hh.1) (plain_py i) hh.2.1 hh.2.2
      · cases h
    · cases h
  | .slc t a lo hi q p, s, sc, fs, c, W, X, T, S, K, O, h => by
    simp only [tyE] at h
    split at h
    · rename_i T1 S1 ha
      split at h
      · rename_i hh
        cases h
        exact ok_slc K (sE a K O ha) (sO lo K O hh.2.1) (sO hi K O hh.2.2) hh.1
      · cases h
    · cases h
  | .call j x es q p, s, sc, fs, c, W, X, T, S, K, O, h => by
    simp only [tyE] at h
    split at h
    · rename_i F hj
      split at h
      · rename_i Ss hA
        split at h
        · rename_i hh
          cases h
          obtain ⟨rfl, h2, h3, h3', h5⟩ := hh
          obtain ⟨ad, fd, pn, f1, f2, f3, f4, f5⟩ := O.fns j F s.lv hj h3 h3'
          cases es with
          | nil =>
            obtain ⟨hp, hS⟩ := tyA_nil hA
            rw [sem_call hj (tyA_outs F.ps 0 hA)]
            subst hS
            exact ok_call0 K f1 h2 f2 f3 f4 hp f5
          | cons a r =>
            rw [sem_call hj (tyA_outs F.ps 0 hA)]
            exact ok_call K f1 h2 f2 f3 f4 (sA (.cons a r) F.ps K O hA) (refOk_of h5) f5 (star_py a) (star_pys r)
        · cases h
      · cases h
    · cases h
  | .b1 f a q p, s, sc, fs, c, W, X, T, S, K, O, h => by
    simp only [tyE] at h
    split at h
    · rename_i T1 S1 ha
      split at h
      · rename_i hh
        cases h
        exact ok_b1 K (sE a K O ha) hh.1 hh.2 (star_py a)
      · cases h
    · cases h
  | .b1r f es q q2 q3 p, s, sc, fs, c, W, X, T, S, K, O, h => by
    simp only [tyE] at h
    split at h
    · rename_i hh
      cases h
      obtain ⟨h1, h2, h3, h4, h5⟩ := hh
      have hl := sL es K O h3
      match es, h2, hl with
      | .cons a .nil, _, hl => exact ok_b1r h1 (.inl rfl) (fun e ds e' z => evs_len _ z) K h4 (prg_a1 (gl_of K h5) (K.bt _ (by simp)) hl (star_py a)) rfl
      | .cons a (.cons b .nil), _, hl => exact ok_b1r h1 (.inr rfl) (fun e ds e' z => evs_len _ z) K h4 (prg_a2 (gl_of K h5) (K.bt _ (by simp)) hl (by rw [show ([py a, py b] : List Expr) = py a :: [py b] from rfl, star_py a, star_py b]; rfl) (star_py b)) rfl
      | .nil, h2, _ => simp [Es.len] at h2
      | .cons _ (.cons _ (.cons _ _)), h2, _ => simp [Es.len] at h2
    · cases h
  | .isi a i q q2 p, s, sc, fs, c, W, X, T, S, K, O, h => by
    simp only [tyE] at h
    split at h
    · rename_i T1 S1 ha
      split at h
      · rename_i hh
        cases h
        exact ok_isi K (sE a K O ha) hh.1 hh.2.1 hh.2.2 (star_py a)
      · cases h
    · cases h
  | .mut m b es q p, s, sc, fs, c, W, X, T, S, K, O, h => by
    match m, es, h with
    | .append, .cons a .nil, h =>
      simp only [tyE] at h
      split at h
      · rename_i i t0 u hb
        split at h
        · rename_i hh
          cases h
          have ha : PA X [py a] (tA g (lend c [i]) W (evs s.TT (.cons a .nil)) [.own u] [[]]) := ok_xown (sE a K O hh.1) ok_xnil (star_py a)
          obtain ⟨hp, hr⟩ := sP b K O hb
          refine ok_mut1 (m := .append) K mut_append hr PySem.F.slot_list_append PySem.F.type_list_append mt_append hp ha (fun σ e e1 e2 H1 H2 f1 f2 vs ds As rel1 st2 al => ?_) (base_pyp b) few_py hh.2 (star_py a) rfl
          cases al with
          | @own _ v d A _ _ _ _ _ res n al =>
            cases al
            obtain ⟨n1, n2⟩ := own_off rel1 st2 res
            exact ⟨[A], ⟨v, d, A, rfl, rfl, rfl, res.rep rfl⟩, fun B hB => by simp at hB; subst hB; exact n1, fun B hB => by simp at hB; subst hB; exact n2⟩
        · cases h
      · cases h
    | .extend, .cons a .nil, h =>
      simp only [tyE] at h
      split at h
      · rename_i i t0 hb
        split at h
        · rename_i T2 S2 ha'
          split at h
          · rename_i hh
            cases h
            have ha : PA X [py a] (tA g (lend c [i]) W (evs s.TT (.cons a .nil)) [.bor T2] [S2]) := ok_xbor (sE a K O ha') ok_xnil (star_py a)
            obtain ⟨hp, hr⟩ := sP b K O hb
            refine ok_mut1 (m := .extend) K mut_extend hr PySem.F.slot_list_extend PySem.F.type_list_extend mt_extendR hp ha (fun σ e e1 e2 H1 H2 f1 f2 vs ds As rel1 st2 al => ?_) (base_pyp b) few_py hh.2 (star_py a) rfl
            cases al with
            | @bor _ _ v d A _ _ _ _ _ res n al =>
              cases al
              exact ⟨[], ⟨v, d, rfl, rfl, rfl, res.rv.vw (flat_cases hh.1)⟩, fun B hB => by simp at hB, fun B hB => by simp at hB⟩
          · cases h
        · cases h
      · cases h
    | .pop, .nil, h =>
      simp only [tyE] at h
      split at h
      · rename_i i t0 hb
        split at h
        · rename_i hh
          cases h
          obtain ⟨hp, hr⟩ := sP b K O hb
          exact ok_mut0 (m := .pop) K mut_pop hr PySem.F.slot_list_pop PySem.F.type_list_pop mt_pop hp (base_pyp b) hh
        · cases h
      · cases h
    | .append, .nil, h => simp [tyE] at h
    | .append, .cons _ (.cons _ _), h => simp [tyE] at h
    | .extend, .nil, h => simp [tyE] at h
    | .extend, .cons _ (.cons _ _), h => simp [tyE] at h
    | .pop, .cons a .nil, h =>
      simp only [tyE] at h
      split at h
      · rename_i i t0 hb
        split at h
        · rename_i hh
          cases h
          have ha : PA X [py a] (tA g (lend c [i]) W (evs s.TT (.cons a .nil)) [.own .sh] [[]]) := ok_xown (sE a K O hh.1) ok_xnil (star_py a)
          obtain ⟨hp, hr⟩ := sP b K O hb
          refine ok_mut1 (m := .pop) K mut_popAt hr PySem.F.slot_list_pop PySem.F.type_list_pop mt_popAt hp ha (fun σ e e1 e2 H1 H2 f1 f2 vs ds As rel1 st2 al => ?_) (base_pyp b) few_py hh.2 (star_py a) rfl
          cases al with
          | @own _ v d A _ _ _ _ _ res n al =>
            cases al
            exact ⟨[], ⟨v, d, rfl, rfl, rfl, by have z := res.rep rfl; cases z with | sh z => exact z⟩, fun B hB => by simp at hB, fun B hB => by simp at hB⟩
        · cases h
      · cases h
    | .pop, .cons _ (.cons _ _), h => simp [tyE] at h
  | .lk m a es q p, s, sc, fs, c, W, X, T, S, K, O, h => by simp [tyE] at h
  | .lc tg it k a own scp p, s, sc, fs, c, W, X, T, S, K, O, h => by
    simp only [tyE] at h
    split at h
    · rename_i T1 S1 hi
      split at h
      · rename_i T2 ha
        split at h
        · rename_i hh
          cases h
          obtain ⟨h1, h2, h3, h4, h5, h7⟩ := hh
          simp only [List.all_eq_true, List.contains_eq_mem, decide_eq_true_eq] at h3
          exact ok_lc (TT := s.TT) K (sI it tg h7 K O hi) (blk_ok h4) h1 (nm_ok h2) h3 (fun Y b => sC k (s := s.blk) b.1 (O.blk b) h5) (fun Y b => sE a (s := s.blk) b.1 (O.blk b) ha) fun x => fold_pyi it
        · cases h
      · cases h
    · cases h
  | .dc tg it k v own scp p, s, sc, fs, c, W, X, T, S, K, O, h => by
    simp only [tyE] at h
    split at h
    · rename_i T1 S1 hi
      split at h
      · rename_i hh
        cases h
        obtain ⟨h1, h2, h3, h4, h5, h6, h7⟩ := hh
        simp only [List.all_eq_true, List.contains_eq_mem, decide_eq_true_eq] at h3
        exact ok_dc (TT := s.TT) K (sI it tg h7 K O hi) (blk_ok h4) h1 (nm_ok h2) h3 (fun Y b => sE k (s := s.blk) b.1 (O.blk b) h5) (fun Y b => sE v (s := s.blk) b.1 (O.blk b) h6) fun x => fold_pyi it
      · cases h
    · cases h
  | .wrd j x a scp lp q p, s, sc, fs, c, W, X, T, S, K, O, h => by
    simp only [tyE] at h
    split at h
    · rename_i F hj
      split at h
      · rename_i r ha
        obtain ⟨T1, S1⟩ := r
        split at h
        · rename_i hh
          cases h
          obtain ⟨rfl, h2, h3, h4, h5⟩ := hh
          obtain ⟨wk, wx, TB, an, gA, cA, PA', pg, bg, sg, dV, kV, doc, pm, cdv, ct, oc, an2, od, osl, Ng, w1, w2, w3, w4, w5, w6, w7, w8, w9, w10, w11, w12, w13, w14, w15, w16, w17, w18⟩ := O.wds j F h2 hj
          have rm : Room (s.lam.lv + 2) X.A := by
            have z := K.room
            show Room (s.lv - 2 + 2) X.A
            rw [Nat.sub_add_cancel h4]
            exact z
          have main := ok_word (pr := noArgs) (m1 := ev s.lam.TT a) (T := T1) (S := S1) K w2 h3 w3 w4 w5 w6 w7 w8 w9 w10 (w11 _) w12 w13 w14 w15 rm (by rw [K.hsc]; exact LamX.lamS_by h5) rfl (fun _ _ _ _ _ => rfl) (fun A outer s1 H E f k' hr => sE a (s := s.lam) (X := LamX.lamCx X A outer s1 H E scp f k')
            ⟨K.hK, K.hN, K.hnd, rfl, rfl, hr, takes_of rfl rfl rfl rfl, K.bt⟩ O.lam ha) w16 w17 w18 (p := q) (lp := lp) (pos := p)
          have es : ev s.TT (.wrd j F.nm a scp lp q p) = fun e => match ev s.lam.TT a e with
              | .ok (d, _) => mo (wk d) e
              | .exc y ys => mo (wx y ys) e
              | .err => .err := by
            funext e
            show (match s.TT[j]? with
              | some f => (match ev s.TT a e with
                | .ok (d, _) => wret (f.sem [.tuple [.none, d]]) e
                | .exc y ys => wret (f.sem [.tuple (.str y :: ys)]) e
                | .err => .err)
              | none => .err) = _
            rw [hj]
            show (match ev s.TT a e with
                | .ok (d, _) => wret (F.sem [.tuple [.none, d]]) e
                | .exc y ys => wret (F.sem [.tuple (.str y :: ys)]) e
                | .err => .err) = match ev s.TT a e with
              | .ok (d, _) => mo (wk d) e
              | .exc y ys => mo (wx y ys) e
              | .err => .err
            rw [w1]
            cases ev s.TT a e with
            | err => rfl
            | exc y ys =>
              simp only [wdSem, oR, wret, mo]
              cases wx y ys <;> rfl
            | ok q =>
              obtain ⟨d, e1⟩ := q
              simp only [wdSem, oR, wret, mo]
              cases wk d <;> rfl
          rw [es]
          exact main
        · cases h
      · cases h
    · cases h
  | .frz a, s, sc, fs, c, W, X, T, S, K, O, h => by
    simp only [tyE] at h
    split at h
    · rename_i T1 ha
      split at h
      · rename_i hh
        cases h
        exact ok_frz K (sE a K O ha) hh
      · cases h
    · cases h
theorem sAnd : ∀ (es : Es) {s : Sg} {sc fs : Scope} {c : Cn} {W : WX} {X : Cx} {p : Pos}, CxV g s.N sc s.lv W X → Ok s g X → es.isNil = false → tyL s sc fs c .sh es = true → PE X (.BoolOp .And (pys es) p) (tV g c W (evAnd s.TT es) .sh [])
  | .nil, s, sc, fs, c, W, X, p, K, O, h, _ => by simp [Es.isNil] at h
  | .cons a .nil, s, sc, fs, c, W, X, p, K, O, _, h => by
    simp only [tyL, Bool.and_eq_true, decide_eq_true_eq] at h
    exact ok_one (sE a K O h.1)
  | .cons a (.cons b r), s, sc, fs, c, W, X, p, K, O, _, h => by
    have h' := h
    simp only [tyL, Bool.and_eq_true, decide_eq_true_eq] at h
    exact ok_and (sE a K O h.1) (sAnd (.cons b r) K O rfl (by simp only [tyL, Bool.and_eq_true, decide_eq_true_eq]; exact h.2))
theorem sOr : ∀ (es : Es) {s : Sg} {sc fs : Scope} {c : Cn} {W : WX} {X : Cx} {p : Pos}, CxV g s.N sc s.lv W X → Ok s g X → es.isNil = false → tyL s sc fs c .sh es = true → PE X (.BoolOp .Or (pys es) p) (tV g c W (evOr s.TT es) .sh [])
  | .nil, s, sc, fs, c, W, X, p, K, O, h, _ => by simp [Es.isNil] at h
  | .cons a .nil, s, sc, fs, c, W, X, p, K, O, _, h => by
    simp only [tyL, Bool.and_eq_true, decide_eq_true_eq] at h
    exact ok_one (sE a K O h.1)
  | .cons a (.cons b r), s, sc, fs, c, W, X, p, K, O, _, h => by
    simp only [tyL, Bool.and_eq_true, decide_eq_true_eq] at h
    exact ok_or (sE a K O h.1) (sOr (.cons b r) K O rfl (by simp only [tyL, Bool.and_eq_true, decide_eq_true_eq]; exact h.2))
theorem sT : ∀ (a : E) {s : Sg} {sc fs : Scope} {c : Cn} {W : WX} {X : Cx}, CxV g s.N sc s.lv W X → Ok s g X → tyT s sc fs c a = true → PT X (py a) (tT g c W (tst s.TT a))
  | .and es p, s, sc, fs, c, W, X, K, O, h => by
    simp only [tyT, Bool.and_eq_true, Bool.not_eq_true'] at h
    exact (sBA es K O h.1 h.2).pt
  | .or es p, s, sc, fs, c, W, X, K, O, h => by
    simp only [tyT, Bool.and_eq_true, Bool.not_eq_true'] at h
    exact (sBO es K O h.1 h.2).pt
  | .not a p, s, sc, fs, c, W, X, K, O, h => ok_notT (sT a K O (by simpa only [tyT] using h))
  | .cmp o a b p, s, sc, fs, c, W, X, K, O, h => by
    simp only [tyT] at h
    split at h
    · rename_i T1 S1 ha
      split at h
      · rename_i T2 S2 hb
        simp only [Bool.and_eq_true] at h
        exact ok_cmpT K (sE a K O ha) (sE b K O hb) h.1 h.2 (behind_py b)
      · cases h
    · cases h
  | .cmp2 o o' a b d p, s, sc, fs, c, W, X, K, O, h => by
    simp only [tyT] at h
    split at h
    · rename_i T3 S3 ha hb hd
      exact ok_cmp2T K (sE a K O ha) (sE b K O hb) (sE d K O hd) h (behind_py d)
    · cases h
  | .var x i p, s, sc, fs, c, W, X, K, O, h => by
    simp only [tyT] at h
    split at h
    · rename_i sl hc
      simp only [decide_eq_true_eq] at h
      exact ok_tru K (ok_var K hc h.1 h.2.1 h.2.2.1 h.2.2.2.1) h.2.2.2.2 fun _ => rfl
    · cases h
  | .isi a i q q2 p, s, sc, fs, c, W, X, K, O, h => by
    simp only [tyT] at h
    split at h
    · rename_i T1 S1 ha
      simp only [decide_eq_true_eq] at h
      exact ok_isiT K (sE a K O ha) h.1 h.2.1 h.2.2 (star_py a)
    · cases h
  | .call j x es q p, s, sc, fs, c, W, X, K, O, h => by
    simp only [tyT] at h
    split at h
    · rename_i F hj
      split at h
      · rename_i Ss hA
        simp only [decide_eq_true_eq] at h
        obtain ⟨rfl, h2, h3, h3', h5, h6⟩ := h
        obtain ⟨ad, fd, pn, f1, f2, f3, f4, f5⟩ := O.fns j F s.lv hj h3 h3'
        rw [tst_call]
        cases es with
        | nil =>
          obtain ⟨hp, hS⟩ := tyA_nil hA
          rw [sem_call hj (tyA_outs F.ps 0 hA)]
          subst hS
          exact ok_tru K (ok_call0 K f1 h2 f2 f3 f4 hp f5) h6 fun _ => rfl
        | cons a r =>
          rw [sem_call hj (tyA_outs F.ps 0 hA)]
          exact ok_tru K (ok_call K f1 h2 f2 f3 f4 (sA (.cons a r) F.ps K O hA) (refOk_of h5) f5 (star_py a) (star_pys r)) h6 fun _ => rfl
      · cases h
    · cases h
  | .b1 f a q p, s, sc, fs, c, W, X, K, O, h => by
    simp only [tyT] at h
    split at h
    · rename_i T1 S1 ha
      simp only [decide_eq_true_eq] at h
      show PT X _ (tT g c W (mb (ev s.TT a) fun x => mo ((apB1 f x).bind truD)))
      rw [tru_b1]
      exact ok_tru K (ok_b1 K (sE a K O ha) h.1 h.2.1 (star_py a)) h.2.2 fun _ => rfl
    · cases h
  | .gl .., s, sc, fs, c, W, X, K, O, h => by simp [tyT] at h
  | .non .., s, sc, fs, c, W, X, K, O, h => by simp [tyT] at h
  | .bl .., s, sc, fs, c, W, X, K, O, h => by simp [tyT] at h
  | .int .., s, sc, fs, c, W, X, K, O, h => by simp [tyT] at h
  | .str .., s, sc, fs, c, W, X, K, O, h => by simp [tyT] at h
  | .bop .., s, sc, fs, c, W, X, K, O, h => by simp [tyT] at h
  | .neg .., s, sc, fs, c, W, X, K, O, h => by simp [tyT] at h
  | .ife .., s, sc, fs, c, W, X, K, O, h => by simp [tyT] at h
  | .tup .., s, sc, fs, c, W, X, K, O, h => by simp [tyT] at h
  | .lst .., s, sc, fs, c, W, X, K, O, h => by simp [tyT] at h
  | .dct0 .., s, sc, fs, c, W, X, K, O, h => by simp [tyT] at h
  | .sub .., s, sc, fs, c, W, X, K, O, h => by simp [tyT] at h
  | .slc .., s, sc, fs, c, W, X, K, O, h => by simp [tyT] at h
  | .b1r .., s, sc, fs, c, W, X, K, O, h => by simp [tyT] at h
  | .mut .., s, sc, fs, c, W, X, K, O, h => by simp [tyT] at h
  | .lk .., s, sc, fs, c, W, X, K, O, h => by simp [tyT] at h
  | .lc .., s, sc, fs, c, W, X, K, O, h => by simp [tyT] at h
  | .dc .., s, sc, fs, c, W, X, K, O, h => by simp [tyT] at h
  | .wrd .., s, sc, fs, c, W, X, K, O, h => by simp [tyT] at h
  | .frz .., s, sc, fs, c, W, X, K, O, h => by simp [tyT] at h
theorem sBA : ∀ (es : Es) {s : Sg} {sc fs : Scope} {c : Cn} {W : WX} {X : Cx} {p : Pos}, CxV g s.N sc s.lv W X → Ok s g X → es.isNil = false → tyB s sc fs c es = true → PW X (.BoolOp .And (pys es) p) (tT g c W (tsAnd s.TT es))
  | .nil, s, sc, fs, c, W, X, p, K, O, h, _ => by simp [Es.isNil] at h
  | .cons a .nil, s, sc, fs, c, W, X, p, K, O, _, h => by
    simp only [tyB, Bool.and_eq_true] at h
    exact pw_and1 (sT a K O h.1)
  | .cons a (.cons b r), s, sc, fs, c, W, X, p, K, O, _, h => by
    simp only [tyB, Bool.and_eq_true] at h
    exact ok_andT (sT a K O h.1) (sBA (.cons b r) K O rfl (by simp only [tyB, Bool.and_eq_true]; exact h.2))
theorem sBO : ∀ (es : Es) {s : Sg} {sc fs : Scope} {c : Cn} {W : WX} {X : Cx} {p : Pos}, CxV g s.N sc s.lv W X → Ok s g X → es.isNil = false → tyB s sc fs c es = true → PW X (.BoolOp .Or (pys es) p) (tT g c W (tsOr s.TT es))
  | .nil, s, sc, fs, c, W, X, p, K, O, h, _ => by simp [Es.isNil] at h
  | .cons a .nil, s, sc, fs, c, W, X, p, K, O, _, h => by
    simp only [tyB, Bool.and_eq_true] at h
    exact pw_or1 (sT a K O h.1)
  | .cons a (.cons b r), s, sc, fs, c, W, X, p, K, O, _, h => by
    simp only [tyB, Bool.and_eq_true] at h
    exact ok_orT (sT a K O h.1) (sBO (.cons b r) K O rfl (by simp only [tyB, Bool.and_eq_true]; exact h.2))
theorem sL : ∀ (es : Es) {s : Sg} {sc fs : Scope} {c : Cn} {W : WX} {X : Cx} {t : Ty}, CxV g s.N sc s.lv W X → Ok s g X → tyL s sc fs c t es = true → PA X (pys es) (tL g c W (evs s.TT es) t)
  | .nil, s, sc, fs, c, W, X, t, K, O, _ => ok_anil
  | .cons a r, s, sc, fs, c, W, X, t, K, O, h => by
    simp only [tyL, Bool.and_eq_true, decide_eq_true_eq] at h
    exact ok_acons (sE a K O h.1) (sL r K O h.2) (star_py a)
theorem sA : ∀ (es : Es) (ps : List Sl) {s : Sg} {sc fs : Scope} {c : Cn} {W : WX} {X : Cx} {Ss : List (List Nat)}, CxV g s.N sc s.lv W X → Ok s g X → tyA s sc fs c ps es = some Ss → PA X (pys es) (tA g c W (evsA s.TT es ps) ps Ss)
  | .nil, ps, s, sc, fs, c, W, X, Ss, K, O, h => by
    cases ps with
    | nil => simp only [tyA, Option.some.injEq] at h; subst h; exact ok_xnil
    | cons p ps => cases p <;> simp [tyA] at h
  | .cons a r, ps, s, sc, fs, c, W, X, Ss, K, O, h => by
    cases ps with
    | nil => simp [tyA] at h
    | cons p ps =>
      cases p with
      | no => simp [tyA] at h
      | own t =>
        simp only [tyA] at h
        split at h
        · rename_i hh
          simp only [Option.map_eq_some_iff] at h
          obtain ⟨S2, h1, rfl⟩ := h
          exact ok_xown (sE a K O hh) (sA r ps K O h1) (star_py a)
        · cases h
      | bor t =>
        simp only [tyA] at h
        split at h
        · rename_i T1 S1 ha
          split at h
          · rename_i hh
            subst hh
            simp only [Option.map_eq_some_iff] at h
            obtain ⟨S2, h1, rfl⟩ := h
            exact ok_xbor (sE a K O ha) (sA r ps K O h1) (star_py a)
          · cases h
        · cases h
      | ref t =>
        cases a with
        | var x i p =>
          simp only [tyA] at h
          split at h
          · rename_i hh
            simp only [Option.map_eq_some_iff] at h
            obtain ⟨S2, h1, rfl⟩ := h
            exact ok_xref K hh.1 hh.2.1 hh.2.2.1 hh.2.2.2 (sA r ps K O h1) (star_py (.var x i p))
          · cases h
        | _ => simp [tyA] at h
theorem sO : ∀ (o : Oe) {s : Sg} {sc fs : Scope} {c : Cn} {W : WX} {X : Cx}, CxV g s.N sc s.lv W X → Ok s g X → tyO s sc fs c o = true → PO X (pyo o) (tO g c W (evo s.TT o))
  | .none, s, sc, fs, c, W, X, K, O, _ => ok_onone
  | .some a, s, sc, fs, c, W, X, K, O, h => by
    simp only [tyO, decide_eq_true_eq] at h
    exact ok_osome (sE a K O h)
theorem sC : ∀ (o : Oe) {s : Sg} {sc fs : Scope} {c : Cn} {W : WX} {X : Cx}, CxV g s.N sc s.lv W X → Ok s g X → tyC s sc fs c o = true → PTs X (pyc o) (tT g c W (cnd s.TT o))
  | .none, s, sc, fs, c, W, X, K, O, _ => pts_none
  | .some a, s, sc, fs, c, W, X, K, O, h => pts_one (sT a K O (by simpa only [tyC] using h))
theorem sI : ∀ (it : It) (tg : Tg), itOk it tg = true → ∀ {s : Sg} {sc fs : Scope} {c : Cn} {W : WX} {X : Cx} {T : Ty} {S : List Nat}, CxV g s.N sc s.lv W X → Ok s g X → tyI s sc fs c it = some (T, S) → PI X (pyt tg) (pyi it) (tI g c W (itr s.TT it) T S)
  | .of a, tg, hok, s, sc, fs, c, W, X, T, S, K, O, h => by
    simp only [tyI, Option.map_eq_some_iff] at h
    obtain ⟨⟨T1, S1⟩, ha, e⟩ := h
    cases e
    exact ok_iof K (sE a K O ha)
  | .enu a q p, tg, hok, s, sc, fs, c, W, X, T, S, K, O, h => by
    simp only [tyI] at h
    split at h
    · rename_i T1 S1 ha
      split at h
      · rename_i hh
        cases h
        cases tg with
        | tp ts tp => exact ok_ienu K (sE a K O ha) hh.1 hh.2 (star_py a)
        | _ => simp [itOk, isTp] at hok
      · cases h
    · cases h
  | .zip a b q p, tg, hok, s, sc, fs, c, W, X, T, S, K, O, h => by
    simp only [tyI] at h
    split at h
    · rename_i T1 S1 ha
      split at h
      · rename_i T2 S2 hb
        split at h
        · rename_i hh
          cases h
          cases tg with
          | tp ts tp => exact ok_izip K (sE a K O ha) (sE b K O hb) hh.1 hh.2.1 hh.2.2 (fun _ => star_py a) (fun _ => star_py b)
          | _ => simp [itOk, isTp] at hok
        · cases h
      · cases h
    · cases h
  | .rng es q p, tg, hok, s, sc, fs, c, W, X, T, S, K, O, h => by
    simp only [tyI] at h
    split at h
    · rename_i hh
      cases h
      obtain ⟨h2, h3, h5⟩ := hh
      have hl := sL es K O h3
      match es, h2, hl with
      | .cons a .nil, _, hl => exact ok_irg1 K hl h5 (star_py a) (fun e ds e' z => evs_len _ z)
      | .cons a (.cons b .nil), _, hl => exact ok_irg2 K hl h5 (by rw [show ([py a, py b] : List Expr) = py a :: [py b] from rfl, star_py a, star_py b]; rfl) (star_py b) (fun e ds e' z => evs_len _ z)
      | .nil, h2, _ => simp [Es.len] at h2
      | .cons _ (.cons _ (.cons _ _)), h2, _ => simp [Es.len] at h2
    · cases h
theorem sP : ∀ (b : Pt) {s : Sg} {sc fs : Scope} {c : Cn} {W : WX} {X : Cx} {i : Nat} {t0 t : Ty}, CxV g s.N sc s.lv W X → Ok s g X → tyP s sc fs c b = some (i, t0, t) → PE X (pyp b) (tP g c W (pth s.TT b) i t0 t) ∧ rootS c i t0
  | .nm x i p, s, sc, fs, c, W, X, j, t0, t, K, O, h => by
    simp only [tyP] at h
    split at h
    · rename_i t hc
      split at h
      · rename_i hh
        cases h
        exact ⟨ok_pnm K (.inl hc) hh.1 hh.2.1 hh.2.2, .inl hc⟩
      · cases h
    · rename_i t hc
      split at h
      · rename_i hh
        cases h
        exact ⟨ok_pnm K (.inr hc) hh.1 hh.2.1 hh.2.2, .inr hc⟩
      · cases h
    · cases h
  | .ix b ie p, s, sc, fs, c, W, X, j, t0, t, K, O, h => by
    simp only [tyP] at h
    split at h
    · rename_i i t1 t2 hb
      split at h
      · rename_i hh
        cases h
        obtain ⟨hp, hr⟩ := sP b K O hb
        exact ⟨ok_pix K hr hp (sE ie K O hh) (plain_py ie), hr⟩
      · cases h
    · cases h
end
end
end VL


set_option Elab.async false
set_option linter.all false
set_option maxRecDepth 100000
set_option maxHeartbeats 2000000
/-! VL23: the check of statements. -/
namespace VL
open PySem PySem.Spec PyProof.Rows L2
def refKB (c c' : Cn) : Bool := (List.range c.length).all fun k => !refS (c.getD k .no) || c'[k]? == c[k]?
def POkB (P : List Nat) (c : Cn) : Bool := P.all fun i => borS (c.getD i .no)
def wkB (c c' : Cn) : Bool := c'.length == c.length && (List.range c.length).all fun i => c'.getD i .no == .no || c'[i]? == c[i]?
def joinC (c1 c2 : Cn) : Cn := c1.mapIdx fun i s => if c2.getD i .no = s then s else .no
def borIx (c : Cn) : List Nat := (List.range c.length).filter fun i => borS (c.getD i .no)
def bkS (sc : Scope) : ScopeKind := if sc.kind.isAnnotationScope then ScopeKind.function else sc.kind
/-- a comprehension on one line with the local name it is stored in -/
def swB (sc scp : Scope) (x : Str) (q p : Pos) : Bool :=
  bkS sc == .function && sc.names.lookup x == some .local && q.line == p.line
      && !(scp.names.any fun (n, k) => n == x && (k == .local || k == .cell))
def Ss.isNil : Ss → Bool
  | .nil => true
  | .cons _ _ => false
def isLs : Ty → Bool
  | .ls _ => true
  | _ => false
/-- a name's own thing, if it is a list -/
def ownLs (c : Cn) (j : Nat) : Option Ty := match c[j]? with
  | some (.own (.ls t)) => some (.ls t)
  | _ => none
/-- a target that is no local name -/
def nlT (sc : Scope) : Tg → Bool
  | .nm x _ _ => !(sc.names.lookup x == some .local)
  | .at (.nm ..) => false
  | _ => true
def nlTs (sc : Scope) : Tgs → Bool
  | .nil => false
  | .cons t r => nlT sc t || nlTs sc r
def swT (sc : Scope) : Tg → Bool
  | .tp ts _ => nlTs sc ts
  | _ => false
section
variable (s : Sg) (ET : List Str) (sc : Scope) (rt : Ty)
def setOk (P : List Nat) (c : Cn) (x : Str) (i : Nat) : Bool := decide (i < c.length) && !P.contains i && !refS (c.getD i .no) && s.N[i]? == some x && locB sc sc x
/-- what comes is stored -/
def setT1 (c : Cn) (i : Nat) (o : Option (Ty × List Nat)) (b : Bool) : Option Cn := match o with
  | some (T, []) => if b = true then some (c.set i (.own T)) else none
  | _ => none
/-- a name stored: its place behind -/
def ckSet (P : List Nat) (c : Cn) (x : Str) (i : Nat) (e : E) (q : Pos) : Option Cn :=
  match e with
  | .var y j _ => (match ownLs c j with
    | some t => if i ≠ j ∧ s.N[j]? = some y ∧ visB sc y = true ∧ nmB y = true then some ((c.set j .no).set i (.own t)) else none
    | none => (match tyE s sc sc c e with
      | some (T, []) => some (c.set i (.own T))
      | _ => none))
  | .lc _ _ _ _ _ scp p => (match tyE s sc sc c e with
    | some (T, []) => if swB sc scp x q p = true then (if sc.names.lookup x = some .local then some (c.set i (.own T)) else none) else some (c.set i (.own T))
    | _ => none)
  | .dc _ _ _ _ _ scp p => setT1 c i (tyE s sc sc c e) (!swB sc scp x q p)
  | _ => setT1 c i (tyE s sc sc c e) (ncE e)
mutual
def ckS (P : List Nat) (cb : Option Cn) (c : Cn) : S → Option (Option Cn)
  | .set x i e q _ => if setOk s sc P c x i = true then (ckSet s sc P c x i e q).map some else none
  | .setT (.at (.ix b ie _)) e _ => match tyP s sc sc c b with
    | some (i, _, .ls u) => if tyE s sc sc c e = some (u, []) ∧ tyE s sc sc (lend c [i]) ie = some (.sh, []) ∧ ncE e = true ∧ ntE e = true then some (some c) else none
    | _ => none
  | .setT (.tp (.cons (.at (.ix b1 i1 _)) (.cons (.at (.ix b2 i2 _)) .nil)) _) (.tup (.cons a1 (.cons a2 .nil)) q) _ => match tyP s sc sc c b1, tyP s sc sc c b2 with
    | some (i, _, .ls .sh), some (j, _, .ls .sh) => if tyE s sc sc c (.tup (.cons a1 (.cons a2 .nil)) q) = some (.sh, []) ∧ tyE s sc sc (lend c [i]) i1 = some (.sh, []) ∧ tyE s sc sc (lend c [j]) i2 = some (.sh, []) then some (some c) else none
    | _, _ => none
  | .setT tg e _ => if tgOk sc sc s.N c tg = true ∧ ((tgIx tg).all fun j => !P.contains j && !refS (c.getD j .no)) = true ∧ tyE s sc sc c e = some (.sh, []) ∧ ncE e = true ∧ (ntE e || swT sc tg) = true then some (some (stC .sh tg c)) else none
  | .setP (.cons (.nm x i p1) (.cons (.nm y j p2) .nil)) (.cons a (.cons b .nil)) _ _ _ =>
    if setOk s sc P c x i = true ∧ setOk s sc P c y j = true ∧ i ≠ j ∧ x ≠ y ∧ sc.names.lookup x = some .local ∧ sc.names.lookup y = some .local ∧ p1.line = p2.line ∧ bkS sc = .function
        ∧ ([py a, py b].all (foldedForSure 8)) = false ∧ ([py a, py b].all (constantsAlone 8)) = false then
      (match tyE s sc sc c a, tyE s sc sc c b with
      | some (T1, []), some (T2, []) => some (some ((c.set i (.own T1)).set j (.own T2)))
      | _, _ => none) else none
  | .setP (.cons (.nm x i p1) (.cons (.nm y j p2) (.cons (.nm z l p3) .nil))) (.cons a (.cons b (.cons d .nil))) _ _ _ =>
    if setOk s sc P c x i = true ∧ setOk s sc P c y j = true ∧ setOk s sc P c z l = true ∧ i ≠ j ∧ i ≠ l ∧ j ≠ l ∧ x ≠ y ∧ x ≠ z ∧ y ≠ z ∧ sc.names.lookup x = some .local ∧ sc.names.lookup y = some .local ∧ sc.names.lookup z = some .local ∧ p1.line = p2.line ∧ p1.line = p3.line ∧ bkS sc = .function
        ∧ ([py a, py b, py d].all (foldedForSure 8)) = false ∧ ([py a, py b, py d].all (constantsAlone 8)) = false then
      (match tyE s sc sc c a, tyE s sc sc c b, tyE s sc sc c d with
      | some (T1, []), some (T2, []), some (T3, []) => some (some (((c.set i (.own T1)).set j (.own T2)).set l (.own T3)))
      | _, _, _ => none) else none
  | .setP _ _ _ _ _ => none
  | .aug _ _ _ _ _ _ => none
  | .ret e _ => match e with
    | .var x i _ => if rt ≠ .sh then (if c[i]? = some (.own rt) ∧ s.N[i]? = some x ∧ visB sc x = true ∧ nmB x = true then some none else none)
        else (if tyE s sc sc c e = some (rt, []) then some none else none)
    | e => if tyE s sc sc c e = some (rt, []) then some none else none
  | .exp e _ => match tyE s sc sc c e with
    | some _ => if ncE e = true then some (some c) else none
    | none => none
  | .ife t a b _ => if tyT s sc sc c t = true then (match ckSs P cb c a, ckSs P cb c b with
    | some none, some none => some none
    | some none, some (some c2) => some (some c2)
    | some (some c1), some none => some (some c1)
    | some (some c1), some (some c2) => if wkB c1 (joinC c1 c2) = true ∧ wkB c2 (joinC c1 c2) = true ∧ POkB P (joinC c1 c2) = true then some (some (joinC c1 c2)) else none
    | _, _ => none) else none
  | .whl t b _ => if tyT s sc sc c t = true then (match ckSs P (some c) c b with
    | some none => some (some c)
    | some (some c1) => if wkB c1 c = true then some (some c) else none
    | none => none) else none
  | .for tg it b _ => match tyI s sc sc c it with
    | some (T1, S1) =>
      if tgOk sc sc s.N (lend c S1) tg = true ∧ (T1 = .sh ∨ isNm tg = true) ∧ ((tgIx tg).all fun j => (lend c S1).getD j .no == .no) = true ∧ (S1.all fun i => !refS (c.getD i .no)) = true ∧ (P.all fun i => (borIx (lend c S1)).contains i) = true
          ∧ (S1.all fun i => (borIx (lend c S1)).contains i) = true ∧ itOk it tg = true then
        (match ckSs (borIx (lend c S1)) (some (lend c S1)) (stC T1 tg (lend c S1)) b with
        | some none => some (some c)
        | some (some c1) => if wkB c1 (lend c S1) = true then some (some c) else none
        | none => none) else none
    | none => none
  | .rai x _ _ _ => if ET.contains x = true ∧ glB sc x = true ∧ (x == ("__debug__" : Str)) = false then some none else none
  | .brk _ => match cb with
    | some cl => if wkB c cl = true ∧ refKB c cl = true ∧ POkB P cl = true then some none else none
    | none => none
  | .cnt _ => match cb with
    | some cl => if wkB c cl = true ∧ refKB c cl = true ∧ POkB P cl = true then some none else none
    | none => none
  | .pas _ => some (some c)
  | .frz i => match c[i]? with
    | some (.own (.ls u)) => if noKs u = true then some (some (c.set i (.own .sh))) else none
    | _ => none
  | .drop i => if refS (c.getD i .no) = false ∧ P.contains i = false then some (some (c.set i .no)) else none
def ckSs (P : List Nat) (cb : Option Cn) (c : Cn) : Ss → Option (Option Cn)
  | .nil => some (some c)
  | .cons a r => match ckS P cb c a with
    | some (some c1) => if refKB c c1 = true ∧ POkB P c1 = true then ckSs P cb c1 r else none
    | some none => if r.isNil = true then some none else none
    | none => none
end
end
theorem refK_of {c c' : Cn} (h : refKB c c' = true) : refK c c' := fun k hk => by
  unfold refKB at h
  simp only [List.all_eq_true, List.mem_range, Bool.or_eq_true, beq_iff_eq, Bool.not_eq_true'] at h
  by_cases hl : k < c.length
  · rcases h k hl with z | z
    · rw [hk] at z; cases z
    · exact z
  · rw [List.getD_eq_getElem?_getD, List.getElem?_eq_none (by omega)] at hk; cases hk
theorem POk_of {P : List Nat} {c : Cn} (h : POkB P c = true) : POk P c := by
  unfold POkB at h
  exact fun i hi => List.all_eq_true.mp h i hi
theorem wk_of {c c' : Cn} (h : wkB c c' = true) : wkC c c' := by
  unfold wkB at h
  simp only [Bool.and_eq_true, beq_iff_eq, List.all_eq_true, List.mem_range, Bool.or_eq_true] at h
  refine ⟨h.1, fun i => ?_⟩
  by_cases hl : i < c.length
  · exact h.2 i hl
  · left; rw [List.getD_eq_getElem?_getD, List.getElem?_eq_none (by omega)]; rfl
theorem borIx_ok {c : Cn} : POk (borIx c) c := fun i hi => by
  unfold borIx at hi
  exact (List.mem_filter.mp hi).2
theorem borIx_all {c : Cn} {i : Nat} (h : borS (c.getD i .no) = true) : i ∈ borIx c := by
  unfold borIx
  refine List.mem_filter.mpr ⟨List.mem_range.mpr ?_, h⟩
  by_cases hl : i < c.length
  · exact hl
  · rw [List.getD_eq_getElem?_getD, List.getElem?_eq_none (by omega)] at h; cases h
end VL


set_option Elab.async false
set_option linter.all false
set_option maxRecDepth 100000
set_option maxHeartbeats 2000000
/-! VL24: the check of statements is right. -/
namespace VL
open PySem PySem.Spec PyProof.Rows L2
def sq (m m2 : M Fl) : M Fl := mb m fun f => match f with | .nx => m2 | g => mp g
def EtOk (ET : List Str) (g : G) (X : Cx) : Prop := ∀ x ∈ ET, ∃ (C : Addr) (bmB : List Value) (B newId initId : String), ExcBaseFacts B newId initId bmB ∧ PySem.W.excIn X.K C bmB newId = true ∧ X.mg x = some (.ref C) ∧ PySem.W.keepIn X.K (.ref C) = true ∧ Raises X (.ref C) ∧ ∀ H, g.exc x [] (.ref C) none H
section
variable {s : Sg} {ET : List Str} {sc : Scope} {rt : Ty} {g : G} {W : WX} {X : Cx} {P : List Nat} {c cv : Cn} {r : Option Cn} {st : Stmt} {m : M Fl}
def Con (g : G) (W : WX) (rt : Ty) (P : List Nat) (c cv : Cn) (X : Cx) (l : List Stmt) (m : M Fl) (r : Option Cn) : Prop :=
  (∀ c1, r = some c1 → refK c c1 → POk P c1 → ∀ (ss : List Stmt) (m2 : M Fl) (c' : Cn), PSs X ss (tS g W rt P c1 c' cv m2) → PSs X (l ++ ss) (tS g W rt P c c' cv (sq m m2))) ∧
  (r = none → ∀ c', PSs X l (tS g W rt P c c' cv (sq m (mp .nx))))
theorem oks_one {c' : Cn} (h : PS X st (tS g W rt P c c' cv m)) : PSs X [st] (tS g W rt P c c' cv (sq m (mp .nx))) := by
  refine PSs.imp (pss_cons h pss_nil) fun D σ H h => ?_
  obtain ⟨e, f, rel, h⟩ := h
  refine ⟨e, f, rel, ?_⟩
  unfold sq mb at h
  cases q : m e with
  | err => rw [q] at h; exact h
  | exc x xs => rw [q] at h; exact h
  | ok r =>
    obtain ⟨fl, e1⟩ := r
    rw [q] at h
    cases fl with
    | nx => exact fun σ1 H1 f1 r1 s1 => (show endS g W rt P c c' cv D e σ H f (.ok (.nx, e1)) from h) σ1 H1 f1 r1 s1
    | br => exact h
    | ct => exact h
    | rt d => exact h
theorem conR (h : ∀ c1, (∀ c2, r = some c2 → c1 = c2) → PS X st (tS g W rt P c c1 cv m)) : Con g W rt P c cv X [st] m r :=
  ⟨fun c1 hr hk hP ss m2 c' hs => oks_cons (h c1 fun c2 e => by rw [hr] at e; cases e; rfl) hs hk, fun hr c' => oks_one (h c' fun c2 e => by rw [hr] at e; cases e)⟩
theorem conG (h : ∀ c1, r = some c1 → refK c c1 → POk P c1 → ∀ (ss : List Stmt) (m2 : M Fl) (c' : Cn), PSs X ss (tS g W rt P c1 c' cv m2) → PSs X ss (tS g W rt P c c' cv m2)) (hr : r ≠ none) : Con g W rt P c cv X [] (mp .nx) r :=
  ⟨fun c1 e hk hP ss m2 c' hs => h c1 e hk hP ss m2 c' hs, fun e => absurd e hr⟩
theorem setOk_of {i : Nat} {x : Str} (h : setOk s sc P c x i = true) : i < c.length ∧ i ∉ P ∧ refS (c.getD i .no) = false ∧ s.N[i]? = some x ∧ locB sc sc x = true := by
  unfold setOk at h
  simp only [Bool.and_eq_true, decide_eq_true_eq, Bool.not_eq_true', beq_iff_eq, List.contains_eq_mem, decide_eq_false_iff_not] at h
  exact ⟨h.1.1.1.1, h.1.1.1.2, h.1.1.2, h.1.2, h.2⟩
theorem ownLs_of {j : Nat} {t : Ty} (h : ownLs c j = some t) : c[j]? = some (.own t) := by
  unfold ownLs at h
  split at h
  · rename_i u hc
    cases h; exact hc
  · cases h
theorem set_ok (K : CxV g s.N sc s.lv W X) (F : FnV sc X) (O : Ok s g X) (hP : POk P c) {x : Str} {i : Nat} {e : E} {q p : Pos} {c1 : Cn} (h0 : setOk s sc P c x i = true) (h : ckSet s sc P c x i e q = some c1) :
    PS X (.Assign [.Name x q] (py e) p) (tS g W rt P c c1 cv (mb (ev s.TT e) fun x => fun e => .ok (.nx, e.set i x))) := by
  obtain ⟨h1, h2, h3, h4, h5⟩ := setOk_of h0
  have gen : ∀ {T : Ty}, tyE s sc sc c e = some (T, []) → ncE e = true → PS X (.Assign [.Name x q] (py e) p) (tS g W rt P c (c.set i (.own T)) cv (mb (ev s.TT e) fun x => fun e => .ok (.nx, e.set i x))) := fun hT hn =>
    ok_set K F hP h1 h2 h4 h5 (sE e K O hT) (swaps_py e hn)
  have gen2 : setT1 c i (tyE s sc sc c e) (ncE e) = some c1 → PS X (.Assign [.Name x q] (py e) p) (tS g W rt P c c1 cv (mb (ev s.TT e) fun x => fun e => .ok (.nx, e.set i x))) := fun hh => by
    unfold setT1 at hh
    split at hh
    · rename_i T hT
      split at hh
      · rename_i hn
        cases hh
        exact gen hT hn
      · cases hh
    · cases hh
  cases e with
  | var y j p2 =>
    simp only [ckSet] at h
    split at h
    · rename_i t ht
      split at h
      · rename_i hh
        cases h
        exact ok_move K F hP (ownLs_of ht) h1 hh.1 h2 h4 h5 hh.2.1 hh.2.2.1 hh.2.2.2 rfl
      · cases h
    · split at h
      · rename_i T hT
        cases h
        exact gen hT rfl
      · cases h
  | dc tg it k a own scp p2 =>
    simp only [ckSet] at h
    unfold setT1 at h
    split at h
    · rename_i T hT
      split at h
      · rename_i hn
        cases h
        have swe : swapsWith (py (.dc tg it k a own scp p2)) (some (.Name x q)) p.line X.env = pure (swB X.env.scope scp x q p2) := rfl
        rw [K.hsc] at swe
        have hf : swB sc scp x q p2 = false := by simpa using hn
        rw [hf] at swe
        exact ok_set K F hP h1 h2 h4 h5 (sE _ K O hT) swe
      · cases h
    · cases h
  | lc tg it k a own scp p2 =>
    simp only [ckSet] at h
    split at h
    · rename_i T hT
      have hT' := hT
      have swe : swapsWith (py (.lc tg it k a own scp p2)) (some (.Name x q)) p.line X.env = pure (swB X.env.scope scp x q p2) := rfl
      rw [K.hsc] at swe
      split at h
      · rename_i hw
        split at h
        · rename_i hl
          cases h
          simp only [tyE] at hT
          split at hT
          · rename_i T1 S1 hi
            split at hT
            · rename_i T2 ha
              split at hT
              · rename_i hh
                cases hT
                obtain ⟨g1, g2, g3, g4, g5, g6⟩ := hh
                simp only [List.all_eq_true, List.contains_eq_mem, decide_eq_true_eq] at g3
                exact ok_setLc (TT := s.TT) K hP h1 h2 h4 hl (sI it tg g6 K O hi) (blk_ok g4) g1 (nm_ok g2) g3 (fun Y b => sC k (s := s.blk) b.1 (O.blk b) g5) (fun Y b => sE a (s := s.blk) b.1 (O.blk b) ha) (fun x => fold_pyi it) (by rw [hw] at swe; exact swe)
              · cases hT
            · cases hT
          · cases hT
        · cases h
      · rename_i hw
        cases h
        exact ok_set K F hP h1 h2 h4 h5 (sE _ K O hT) (by rw [swe]; simp [hw])
    · cases h
  | _ => exact gen2 (by simpa only [ckSet] using h)
def isSt : Expr → Bool
  | .Starred .. => true
  | _ => false
theorem ns_py : ∀ (a : E), isSt (py a) = false
  | .var .. => rfl
  | .gl .. => rfl
  | .non _ => rfl
  | .bl .. => rfl
  | .int .. => rfl
  | .str .. => rfl
  | .bop .. => rfl
  | .neg .. => rfl
  | .not .. => rfl
  | .and .. => rfl
  | .or .. => rfl
  | .cmp .. => rfl
  | .cmp2 .. => rfl
  | .ife .. => rfl
  | .tup .. => rfl
  | .lst .. => rfl
  | .dct0 _ => rfl
  | .sub .. => rfl
  | .slc .. => rfl
  | .call .. => rfl
  | .b1 .. => rfl
  | .b1r .. => rfl
  | .isi .. => rfl
  | .mut .. => rfl
  | .lk .. => rfl
  | .lc .. => rfl
  | .dc .. => rfl
  | .wrd .. => rfl
  | .frz a => ns_py a
theorem stores_two {env : Env} {x y : Str} {p1 p2 q q2 : Pos} {a b : Expr} (hb : env.blockKind = .function) (k1 : env.kindOf x = some .local) (k2 : env.kindOf y = some .local) (hxy : x ≠ y) (hl : p1.line = p2.line)
    (na : isSt a = false) (nb : isSt b = false) (h9 : ([a, b].all (foldedForSure 8)) = false) (h10 : ([a, b].all (constantsAlone 8)) = false) :
    swappedStores [.Tuple [.Name x p1, .Name y p2] 0 q] (.Tuple [a, b] 0 q2) env = pure (some [x, y]) := by
  have e : ∀ F : Expr → Option Str, F (.Name x p1) = some x → F (.Name y p2) = some y → List.filterMap F [.Name x p1, .Name y p2] = [x, y] := fun F h1 h2 => by simp [List.filterMap, h1, h2]
  have n1 : ([a, b].any fun | .Starred .. => true | _ => false) = false := by
    have z : [a, b].any isSt = false := by simp [na, nb]
    have ef : (fun (x : Expr) => (match x with | .Starred .. => true | _ => false)) = isSt := by funext x; cases x <;> rfl
    rw [ef]
    exact z
  have l1 : ((Expr.Name x p1).pos.line) = p1.line := rfl
  unfold swappedStores
  simp only [List.length_cons, List.length_nil, hb, h9, h10, n1, List.head?_cons, Option.map_some, Option.getD_some, pure_bind]
  rw [e _ (by simp [k1, l1]) (by simp [k2, l1, hl])]
  have hyx : (y == x) = false := by
    cases q : y == x with
    | false => rfl
    | true => exact absurd (eq_of_beq q).symm hxy
  have ed : ([x, y] : List Str).eraseDups = [x, y] := by simp [List.eraseDups, List.eraseDupsBy, List.eraseDupsBy.loop, hyx]
  rw [ed, if_neg (by decide)]
  have n2 : ∀ (F : Expr → Bool) (u v : Sem (Option (List Str))), [a, b].any F = false → (if ([a, b].any F) = true then u else v) = v := fun F u v z => by rw [z]; rfl
  exact (n2 _ _ _ n1).trans rfl
theorem stores_three {env : Env} {x y z : Str} {p1 p2 p3 q q2 : Pos} {a b d : Expr} (hb : env.blockKind = .function) (k1 : env.kindOf x = some .local) (k2 : env.kindOf y = some .local) (k3 : env.kindOf z = some .local) (hxy : x ≠ y) (hxz : x ≠ z) (hyz : y ≠ z) (hl : p1.line = p2.line) (hl3 : p1.line = p3.line)
    (na : isSt a = false) (nb : isSt b = false) (nd : isSt d = false) (h9 : ([a, b, d].all (foldedForSure 8)) = false) (h10 : ([a, b, d].all (constantsAlone 8)) = false) :
    swappedStores [.Tuple [.Name x p1, .Name y p2, .Name z p3] 0 q] (.Tuple [a, b, d] 0 q2) env = pure (some [x, y, z]) := by
  have e : ∀ F : Expr → Option Str, F (.Name x p1) = some x → F (.Name y p2) = some y → F (.Name z p3) = some z → List.filterMap F [.Name x p1, .Name y p2, .Name z p3] = [x, y, z] := fun F h1 h2 h3 => by simp [List.filterMap, h1, h2, h3]
  have n1 : ([a, b, d].any fun | .Starred .. => true | _ => false) = false := by
    have w : [a, b, d].any isSt = false := by simp [na, nb, nd]
    have ef : (fun (x : Expr) => (match x with | .Starred .. => true | _ => false)) = isSt := by funext x; cases x <;> rfl
    rw [ef]
    exact w
  have l1 : ((Expr.Name x p1).pos.line) = p1.line := rfl
  unfold swappedStores
  simp only [List.length_cons, List.length_nil, hb, h9, h10, n1, List.head?_cons, Option.map_some, Option.getD_some, pure_bind]
  rw [e _ (by simp [k1, l1]) (by simp [k2, l1, hl]) (by simp [k3, l1, hl3])]
  have ne : ∀ {u v : Str}, u ≠ v → (v == u) = false := fun {u v} n => by
    cases w : v == u with
    | false => rfl
    | true => exact absurd (eq_of_beq w).symm n
  have ed : ([x, y, z] : List Str).eraseDups = [x, y, z] := by simp [List.eraseDups, List.eraseDupsBy, List.eraseDupsBy.loop, ne hxy, ne hxz, ne hyz]
  rw [ed, if_neg (by decide)]
  have n2 : ∀ (F : Expr → Bool) (u v : Sem (Option (List Str))), [a, b, d].any F = false → (if ([a, b, d].any F) = true then u else v) = v := fun F u v w => by rw [w]; rfl
  exact (n2 _ _ _ n1).trans rfl
theorem par_eq {TT : List Fn} {i j : Nat} {x y : Str} {p1 p2 : Pos} {a b : E} : sq (mb (evs TT (.cons a (.cons b .nil))) fun xs => mb (bnds TT (.cons (.nm x i p1) (.cons (.nm y j p2) .nil)) xs) fun _ => mp .nx) = sq (mb (evs TT (.cons a (.cons b .nil))) fun xs => fun e => .ok (.nx, (e.set i (xs.getD 0 .none)).set j (xs.getD 1 .none))) := by
  have z : (mb (evs TT (.cons a (.cons b .nil))) fun xs => mb (bnds TT (.cons (.nm x i p1) (.cons (.nm y j p2) .nil)) xs) fun _ => mp Fl.nx) = mb (evs TT (.cons a (.cons b .nil))) fun xs => fun e => .ok (.nx, (e.set i (xs.getD 0 .none)).set j (xs.getD 1 .none)) := by
    funext e
    unfold mb
    cases q : evs TT (.cons a (.cons b .nil)) e with
    | err => rfl
    | exc x xs => rfl
    | ok r =>
      obtain ⟨ds, e1⟩ := r
      have hl := evs_len _ q
      match ds, hl with
      | [d1, d2], _ => rfl
  rw [z]
theorem par3_eq {TT : List Fn} {i j l : Nat} {x y z : Str} {p1 p2 p3 : Pos} {a b d : E} : (mb (evs TT (.cons a (.cons b (.cons d .nil)))) fun xs => mb (bnds TT (.cons (.nm x i p1) (.cons (.nm y j p2) (.cons (.nm z l p3) .nil))) xs) fun _ => mp Fl.nx) = mb (evs TT (.cons a (.cons b (.cons d .nil)))) fun xs => fun e => .ok (.nx, ((e.set i (xs.getD 0 .none)).set j (xs.getD 1 .none)).set l (xs.getD 2 .none)) := by
  funext e
  unfold mb
  cases q : evs TT (.cons a (.cons b (.cons d .nil))) e with
  | err => rfl
  | exc x xs => rfl
  | ok r =>
    obtain ⟨ds, e1⟩ := r
    have hl := evs_len _ q
    match ds, hl with
    | [d1, d2, d3], _ => rfl
theorem tup_two {TT : List Fn} {a1 a2 : E} {q3 : Pos} {e e1 : Ev} {d : Dt} (h : ev TT (.tup (.cons a1 (.cons a2 .nil)) q3) e = .ok (d, e1)) : ∃ d1 d2, d = .tuple [d1, d2] := by
  have h' : mb (evs TT (.cons a1 (.cons a2 .nil))) (fun xs => mo (if xs.length ≤ sizeLine then some (.tuple xs) else none)) e = .ok (d, e1) := h
  unfold mb at h'
  cases q : evs TT (.cons a1 (.cons a2 .nil)) e with
  | err => rw [q] at h'; cases h'
  | exc x xs => rw [q] at h'; cases h'
  | ok r =>
    obtain ⟨ds, e2⟩ := r
    have hl := evs_len _ q
    rw [q] at h'
    match ds, hl, h' with
    | [d1, d2], _, h' =>
      refine ⟨d1, d2, ?_⟩
      have z : ([d1, d2] : List Dt).length ≤ sizeLine := by show 2 ≤ sizeLine; rw [sizeLine_eq]; omega
      simp only [z, if_true, mo, R.ok.injEq, Prod.mk.injEq] at h'
      exact h'.1.symm
theorem two_eq {TT : List Fn} {b1 b2 : Pt} {i1 i2 a1 a2 : E} {qa qb qt q3 : Pos} : (mb (ev TT (.tup (.cons a1 (.cons a2 .nil)) q3)) fun x => mb (bnd TT (.tp (.cons (.at (.ix b1 i1 qa)) (.cons (.at (.ix b2 i2 qb)) .nil)) qt) x) fun _ => mp Fl.nx) = mb (ev TT (.tup (.cons a1 (.cons a2 .nil)) q3)) fun d => mb (st2 (pth TT b1) (ev TT i1) (pth TT b2) (ev TT i2) d) fun _ => mp .nx := by
  funext e
  unfold mb
  cases q : ev TT (.tup (.cons a1 (.cons a2 .nil)) q3) e with
  | err => rfl
  | exc x xs => rfl
  | ok r =>
    obtain ⟨d, e1⟩ := r
    obtain ⟨d1, d2, rfl⟩ := tup_two q
    have l : bnd TT (.tp (.cons (.at (.ix b1 i1 qa)) (.cons (.at (.ix b2 i2 qb)) .nil)) qt) (.tuple [d1, d2]) = mb (stB (pth TT b1) (ev TT i1) d1) fun _ => mb (stB (pth TT b2) (ev TT i2) d2) fun _ => mp () := rfl
    have r : st2 (pth TT b1) (ev TT i1) (pth TT b2) (ev TT i2) (.tuple [d1, d2]) = mb (stB (pth TT b1) (ev TT i1) d1) fun _ => stB (pth TT b2) (ev TT i2) d2 := rfl
    simp only [l, r]
    unfold mb
    cases stB (pth TT b1) (ev TT i1) d1 e1 with
    | err => rfl
    | exc x xs => rfl
    | ok r =>
      obtain ⟨⟨⟩, e2⟩ := r
      simp only
      cases stB (pth TT b2) (ev TT i2) d2 e2 with
      | err => rfl
      | exc x xs => rfl
      | ok r => rfl
theorem nlTs_of {sc : Scope} {env : Env} (hsc : env.scope = sc) : ∀ {ts : Tgs}, nlTs sc ts = true → ∃ t ∈ pyts ts, locT env t = false
  | .nil, h => by simp [nlTs] at h
  | .cons t r, h => by
    simp only [nlTs, Bool.or_eq_true] at h
    rcases h with h | h
    · refine ⟨pyt t, List.mem_cons_self, ?_⟩
      cases t with
      | nm x i p =>
        simp only [nlT, Bool.not_eq_true'] at h
        show (env.scope.names.lookup x == some .local) = false
        rw [hsc]; exact h
      | tp ts p => rfl
      | «at» b =>
        cases b with
        | nm x i p => simp [nlT] at h
        | ix b i p => rfl
    · obtain ⟨t', m, e⟩ := nlTs_of hsc h
      exact ⟨t', List.mem_cons_of_mem _ m, e⟩
theorem stores_any {g : G} {N : List Str} {sc : Scope} {lv : Nat} {W : WX} {X : Cx} (K : CxV g N sc lv W X) (e : E) (tg : Tg) (h : (ntE e || swT sc tg) = true) : swappedStores [pyt tg] (py e) X.env = pure none := by
  rw [Bool.or_eq_true] at h
  rcases h with h | h
  · exact stores_py e h
  · cases tg with
    | tp ts p =>
      obtain ⟨t, m, q⟩ := nlTs_of K.hsc (show nlTs sc ts = true from h)
      exact stores_none m q _
    | _ => simp [swT] at h
mutual
theorem kS : ∀ (a : S) {P : List Nat} {cb : Option Cn} {c : Cn} {r : Option Cn}, CxV g s.N sc s.lv W X → FnV sc X → Ok s g X → EtOk ET g X → PassesOwn (model X.prog X.w) X.A X.env X.xe → POk P c → ckS s ET sc rt P cb c a = some r → Con g W rt P c (cb.getD []) X (pyS a) (ex s.TT a) r
  | .set x i e q p, P, cb, c, r, K, F, O, Q, hp, hP, h => by
    simp only [ckS] at h
    split at h
    · rename_i h0
      simp only [Option.map_eq_some_iff] at h
      obtain ⟨c1, h1, rfl⟩ := h
      exact conR fun c2 e => by cases e c1 rfl; exact set_ok K F O hP h0 h1
    · cases h
  | .setT tg e p, P, cb, c, r, K, F, O, Q, hp, hP, h => by
    have gen : (if tgOk sc sc s.N c tg = true ∧ ((tgIx tg).all fun j => !P.contains j && !refS (c.getD j .no)) = true ∧ tyE s sc sc c e = some (.sh, []) ∧ ncE e = true ∧ (ntE e || swT sc tg) = true then some (some (stC .sh tg c)) else none) = some r → Con g W rt P c (cb.getD []) X (pyS (.setT tg e p)) (ex s.TT (.setT tg e p)) r := fun h => by
      split at h
      · rename_i hh
        cases h
        obtain ⟨h1, h2, h3, h4, h5⟩ := hh
        simp only [List.all_eq_true, Bool.and_eq_true, Bool.not_eq_true', List.contains_eq_mem, decide_eq_false_iff_not] at h2
        exact conR fun c2 e2 => by
          cases e2 _ rfl
          exact ok_setT K F hP h1 (fun j hj => (h2 j hj).1) (sE e K O h3) (swaps_py e h4) (stores_any K e tg h5)
      · cases h
    match tg, gen, h with
    | .nm .., gen, h => exact gen (by simpa only [ckS] using h)
    | .tp (.cons (.at (.ix b1 i1 qa)) (.cons (.at (.ix b2 i2 qb)) .nil)) qt, gen, h =>
      match e, gen, h with
      | .tup (.cons a1 (.cons a2 .nil)) q3, gen, h =>
        simp only [ckS] at h
        split at h
        · rename_i i t0 j t0' hb1 hb2
          split at h
          · rename_i hh
            cases h
            obtain ⟨h1, h2, h3⟩ := hh
            obtain ⟨hp1, hr1⟩ := sP b1 K O hb1
            obtain ⟨hp2, hr2⟩ := sP b2 K O hb2
            show Con g W rt P c (cb.getD []) X _ (mb (ev s.TT (.tup (.cons a1 (.cons a2 .nil)) q3)) fun x => mb (bnd s.TT (.tp (.cons (.at (.ix b1 i1 qa)) (.cons (.at (.ix b2 i2 qb)) .nil)) qt) x) fun _ => mp .nx) _
            rw [two_eq]
            exact conR fun c2 e2 => by
              cases e2 _ rfl
              exact ok_store2 (a := .tup (.cons a1 (.cons a2 .nil)) q3) K hP hr1 hr2 (sE _ K O h1) hp1 (sE i1 K O h2) hp2 (sE i2 K O h3) rfl (fun v => assign_sub i1) (fun v => assign_sub i2)
          · cases h
        · cases h
      | .var .., gen, h => exact gen (by simpa only [ckS] using h)
      | .gl .., gen, h => exact gen (by simpa only [ckS] using h)
      | .non .., gen, h => exact gen (by simpa only [ckS] using h)
      | .bl .., gen, h => exact gen (by simpa only [ckS] using h)
      | .int .., gen, h => exact gen (by simpa only [ckS] using h)
      | .str .., gen, h => exact gen (by simpa only [ckS] using h)
      | .bop .., gen, h => exact gen (by simpa only [ckS] using h)
      | .neg .., gen, h => exact gen (by simpa only [ckS] using h)
      | .not .., gen, h => exact gen (by simpa only [ckS] using h)
      | .and .., gen, h => exact gen (by simpa only [ckS] using h)
      | .or .., gen, h => exact gen (by simpa only [ckS] using h)
      | .cmp .., gen, h => exact gen (by simpa only [ckS] using h)
      | .cmp2 .., gen, h => exact gen (by simpa only [ckS] using h)
      | .ife .., gen, h => exact gen (by simpa only [ckS] using h)
      | .lst .., gen, h => exact gen (by simpa only [ckS] using h)
      | .dct0 .., gen, h => exact gen (by simpa only [ckS] using h)
      | .sub .., gen, h => exact gen (by simpa only [ckS] using h)
      | .slc .., gen, h => exact gen (by simpa only [ckS] using h)
      | .call .., gen, h => exact gen (by simpa only [ckS] using h)
      | .b1 .., gen, h => exact gen (by simpa only [ckS] using h)
      | .b1r .., gen, h => exact gen (by simpa only [ckS] using h)
      | .isi .., gen, h => exact gen (by simpa only [ckS] using h)
      | .mut .., gen, h => exact gen (by simpa only [ckS] using h)
      | .lk .., gen, h => exact gen (by simpa only [ckS] using h)
      | .lc .., gen, h => exact gen (by simpa only [ckS] using h)
      | .dc .., gen, h => exact gen (by simpa only [ckS] using h)
      | .wrd .., gen, h => exact gen (by simpa only [ckS] using h)
      | .frz .., gen, h => exact gen (by simpa only [ckS] using h)
      | .tup .nil _, gen, h => exact gen (by simpa only [ckS] using h)
      | .tup (.cons _ .nil) _, gen, h => exact gen (by simpa only [ckS] using h)
      | .tup (.cons _ (.cons _ (.cons ..))) _, gen, h => exact gen (by simpa only [ckS] using h)
    | .tp .nil _, gen, h => exact gen (by simpa only [ckS] using h)
    | .tp (.cons (.nm ..) _) _, gen, h => exact gen (by simpa only [ckS] using h)
    | .tp (.cons (.tp ..) _) _, gen, h => exact gen (by simpa only [ckS] using h)
    | .tp (.cons (.at (.nm ..)) _) _, gen, h => exact gen (by simpa only [ckS] using h)
    | .tp (.cons (.at (.ix ..)) .nil) _, gen, h => exact gen (by simpa only [ckS] using h)
    | .tp (.cons (.at (.ix ..)) (.cons (.nm ..) _)) _, gen, h => exact gen (by simpa only [ckS] using h)
    | .tp (.cons (.at (.ix ..)) (.cons (.tp ..) _)) _, gen, h => exact gen (by simpa only [ckS] using h)
    | .tp (.cons (.at (.ix ..)) (.cons (.at (.nm ..)) _)) _, gen, h => exact gen (by simpa only [ckS] using h)
    | .tp (.cons (.at (.ix ..)) (.cons (.at (.ix ..)) (.cons ..))) _, gen, h => exact gen (by simpa only [ckS] using h)
    | .at (.nm ..), gen, h => exact gen (by simpa only [ckS] using h)
    | .at (.ix b ie q), gen, h =>
      simp only [ckS] at h
      split at h
      · rename_i i t0 u hb
        split at h
        · rename_i hh
          cases h
          obtain ⟨h1, h2, h3, h4⟩ := hh
          obtain ⟨hp', hr⟩ := sP b K O hb
          exact conR fun c2 e2 => by
            cases e2 _ rfl
            exact ok_store K hP hr (sE e K O h1) hp' (sE ie K O h2) (show swapsWithSole [Expr.Subscript (pyp b) (py ie) q] (py e) p.line X.env = pure false from swaps_py (env := X.env) (t := some (.Subscript (pyp b) (py ie) q)) (l := p.line) e h3) h4 (fun v => assign_sub ie)
        · cases h
      · cases h
  | .setP tg es q q2 p, P, cb, c, r, K, F, O, Q, hp, hP, h => by
    match tg, es, h with
    | .cons (.nm x i p1) (.cons (.nm y j p2) .nil), .cons a (.cons b .nil), h =>
      simp only [ckS] at h
      split at h
      · rename_i hh
        obtain ⟨h1, h2, h3, h4, h5, h6, h7, h8, h9, h10⟩ := hh
        split at h
        · rename_i T1 T2 ha hb
          cases h
          obtain ⟨i1, i2, i3, i4, i5⟩ := setOk_of h1
          obtain ⟨j1, j2, j3, j4, j5⟩ := setOk_of h2
          have hA : PA X [py a, py b] (tA g c W (evs s.TT (.cons a (.cons b .nil))) [.own T1, .own T2] [[], []]) := ok_xown (sE a K O ha) (ok_xown (sE b K O hb) ok_xnil (star_py b)) (star_py a)
          have hw : swappedStores [.Tuple [.Name x p1, .Name y p2] 0 q] (.Tuple [py a, py b] 0 q2) X.env = pure (some [x, y]) := by
            have hb : X.env.blockKind = .function := by
              show bkS X.env.scope = _
              rw [K.hsc]; exact h8
            have k1 : X.env.kindOf x = some .local := by
              show X.env.scope.names.lookup x = _
              rw [K.hsc]; exact h5
            have k2 : X.env.kindOf y = some .local := by
              show X.env.scope.names.lookup y = _
              rw [K.hsc]; exact h6
            exact stores_two hb k1 k2 h4 h7 (ns_py a) (ns_py b) h9 h10
          have z : PS X (.Assign [.Tuple [.Name x p1, .Name y p2] 0 q] (.Tuple [py a, py b] 0 q2) p) (tS g W rt P c ((c.set i (.own T1)).set j (.own T2)) (cb.getD []) (mb (evs s.TT (.cons a (.cons b .nil))) fun xs => fun e => .ok (.nx, (e.set i (xs.getD 0 .none)).set j (xs.getD 1 .none)))) :=
            ok_par K hP i1 j1 h3 i2 j2 i4 j4 h5 h6 hA hw rfl
          have w := conR (r := some ((c.set i (.own T1)).set j (.own T2))) (g := g) (W := W) (rt := rt) (P := P) (c := c) (cv := cb.getD []) (X := X) fun c2 e2 => by
            cases e2 _ rfl
            exact z
          unfold Con at w ⊢
          show (∀ c1, _ → _ → _ → ∀ (ss : List Stmt) (m2 : M Fl) (c' : Cn), _ → PSs X ([_] ++ ss) (tS g W rt P c c' (cb.getD []) (sq (mb (evs s.TT (.cons a (.cons b .nil))) fun xs => mb (bnds s.TT (.cons (.nm x i p1) (.cons (.nm y j p2) .nil)) xs) fun _ => mp .nx) m2))) ∧ (_ → ∀ c', PSs X [_] (tS g W rt P c c' (cb.getD []) (sq (mb (evs s.TT (.cons a (.cons b .nil))) fun xs => mb (bnds s.TT (.cons (.nm x i p1) (.cons (.nm y j p2) .nil)) xs) fun _ => mp .nx) (mp .nx))))
          rw [par_eq]
          exact w
        · cases h
      · cases h
    | .nil, _, h => simp [ckS] at h
    | .cons (.tp ..) _, _, h => simp [ckS] at h
    | .cons (.at ..) _, _, h => simp [ckS] at h
    | .cons (.nm ..) .nil, _, h => simp [ckS] at h
    | .cons (.nm ..) (.cons (.tp ..) _), _, h => simp [ckS] at h
    | .cons (.nm ..) (.cons (.at ..) _), _, h => simp [ckS] at h
    | .cons (.nm x i p1) (.cons (.nm y j p2) (.cons (.nm z l p3) .nil)), .cons a (.cons b (.cons d .nil)), h =>
      simp only [ckS] at h
      split at h
      · rename_i hh
        obtain ⟨h1, h2, h3, nij, nil', njl, nxy, nxz, nyz, kx, ky, kz, l12, l13, hb, f1, f2⟩ := hh
        split at h
        · rename_i T1 T2 T3 ha hbb hd
          cases h
          obtain ⟨i1, i2, i3, i4, i5⟩ := setOk_of h1
          obtain ⟨j1, j2, j3, j4, j5⟩ := setOk_of h2
          obtain ⟨m1, m2, m3, m4, m5⟩ := setOk_of h3
          have hA : PA X [py a, py b, py d] (tA g c W (evs s.TT (.cons a (.cons b (.cons d .nil)))) [.own T1, .own T2, .own T3] [[], [], []]) := ok_xown (sE a K O ha) (ok_xown (sE b K O hbb) (ok_xown (sE d K O hd) ok_xnil (star_py d)) (star_py b)) (star_py a)
          have hw : swappedStores [.Tuple [.Name x p1, .Name y p2, .Name z p3] 0 q] (.Tuple [py a, py b, py d] 0 q2) X.env = pure (some [x, y, z]) := by
            have hb' : X.env.blockKind = .function := by
              show bkS X.env.scope = _
              rw [K.hsc]; exact hb
            have k1 : X.env.kindOf x = some .local := by
              show X.env.scope.names.lookup x = _
              rw [K.hsc]; exact kx
            have k2 : X.env.kindOf y = some .local := by
              show X.env.scope.names.lookup y = _
              rw [K.hsc]; exact ky
            have k3 : X.env.kindOf z = some .local := by
              show X.env.scope.names.lookup z = _
              rw [K.hsc]; exact kz
            exact stores_three hb' k1 k2 k3 nxy nxz nyz l12 l13 (ns_py a) (ns_py b) (ns_py d) f1 f2
          show Con g W rt P c (cb.getD []) X _ (mb (evs s.TT (.cons a (.cons b (.cons d .nil)))) fun xs => mb (bnds s.TT (.cons (.nm x i p1) (.cons (.nm y j p2) (.cons (.nm z l p3) .nil))) xs) fun _ => mp Fl.nx) _
          rw [par3_eq]
          exact conR fun c2 e2 => by
            cases e2 _ rfl
            exact ok_par3 K hP i1 j1 m1 nij nil' njl i2 j2 m2 i4 j4 m4 kx ky kz hA hw rfl
        · cases h
      · cases h
    | .cons (.nm ..) (.cons (.nm ..) (.cons (.tp ..) _)), _, h => simp [ckS] at h
    | .cons (.nm ..) (.cons (.nm ..) (.cons (.at ..) _)), _, h => simp [ckS] at h
    | .cons (.nm ..) (.cons (.nm ..) (.cons (.nm ..) (.cons ..))), _, h => simp [ckS] at h
    | .cons (.nm ..) (.cons (.nm ..) (.cons (.nm ..) .nil)), .nil, h => simp [ckS] at h
    | .cons (.nm ..) (.cons (.nm ..) (.cons (.nm ..) .nil)), .cons _ .nil, h => simp [ckS] at h
    | .cons (.nm ..) (.cons (.nm ..) (.cons (.nm ..) .nil)), .cons _ (.cons _ .nil), h => simp [ckS] at h
    | .cons (.nm ..) (.cons (.nm ..) (.cons (.nm ..) .nil)), .cons _ (.cons _ (.cons _ (.cons ..))), h => simp [ckS] at h
    | .cons (.nm ..) (.cons (.nm ..) .nil), .nil, h => simp [ckS] at h
    | .cons (.nm ..) (.cons (.nm ..) .nil), .cons _ .nil, h => simp [ckS] at h
    | .cons (.nm ..) (.cons (.nm ..) .nil), .cons _ (.cons _ (.cons ..)), h => simp [ckS] at h
  | .aug .., P, cb, c, r, K, F, O, Q, hp, hP, h => by simp [ckS] at h
  | .ret e p, P, cb, c, r, K, F, O, Q, hp, hP, h => by
    have gen : tyE s sc sc c e = some (rt, []) → r = none → Con g W rt P c (cb.getD []) X (pyS (.ret e p)) (ex s.TT (.ret e p)) r := fun ht _ => conR fun c2 _ => ok_ret hP (sE e K O ht)
    have gen2 : (if tyE s sc sc c e = some (rt, []) then some none else none) = some r → Con g W rt P c (cb.getD []) X (pyS (.ret e p)) (ex s.TT (.ret e p)) r := fun h => by
      split at h
      · rename_i ht; cases h; exact gen ht rfl
      · cases h
    cases e with
    | var x i q =>
      simp only [ckS] at h
      split at h
      · split at h
        · rename_i hh
          cases h
          exact conR fun c2 _ => ok_retv K hh.1 hh.2.1 hh.2.2.1 hh.2.2.2
        · cases h
      · exact gen2 h
    | _ => exact gen2 (by simpa only [ckS] using h)
  | .exp e p, P, cb, c, r, K, F, O, Q, hp, hP, h => by
    simp only [ckS] at h
    split at h
    · rename_i T ht
      split at h
      · rename_i hn
        cases h
        exact conR fun c2 e2 => by cases e2 _ rfl; exact ok_exp hP (sE e K O ht) (swaps_py e hn)
      · cases h
    · cases h
  | .ife t a b p, P, cb, c, r, K, F, O, Q, hp, hP, h => by
    simp only [ckS] at h
    split at h
    · rename_i ht
      have hT := sT t K O ht
      split at h
      · rename_i ha hb
        cases h
        have a1 := kSs a K F O Q hp hP ha
        have b1 := kSs b K F O Q hp hP hb
        exact conR fun c2 _ => ok_if hP hT (a1 c2 fun _ z => by cases z) (b1 c2 fun _ z => by cases z)
      · rename_i c2 ha hb
        cases h
        have a1 := kSs a K F O Q hp hP ha
        have b1 := kSs b K F O Q hp hP hb
        exact conR fun c3 e3 => by cases e3 _ rfl; exact ok_if hP hT (a1 _ fun _ z => by cases z) (b1 _ fun _ z => by cases z; rfl)
      · rename_i c1 ha hb
        cases h
        have a1 := kSs a K F O Q hp hP ha
        have b1 := kSs b K F O Q hp hP hb
        exact conR fun c3 e3 => by cases e3 _ rfl; exact ok_if hP hT (a1 _ fun _ z => by cases z; rfl) (b1 _ fun _ z => by cases z)
      · rename_i c1 c2 ha hb
        split at h
        · rename_i hj
          cases h
          have a1 := kSs a K F O Q hp hP ha
          have b1 := kSs b K F O Q hp hP hb
          exact conR fun c3 e3 => by
            cases e3 _ rfl
            exact ok_if hP hT (oks_post (a1 _ fun _ z => by cases z; rfl) (POk_of hj.2.2) (wk_of hj.1)) (oks_post (b1 _ fun _ z => by cases z; rfl) (POk_of hj.2.2) (wk_of hj.2.1))
        · cases h
      · cases h
    · cases h
  | .whl t b p, P, cb, c, r, K, F, O, Q, hp, hP, h => by
    simp only [ckS] at h
    split at h
    · rename_i ht
      have hT := sT t K O ht
      split at h
      · rename_i hb
        cases h
        have b1 := kSs b K F O Q hp hP hb
        exact conR fun c3 e3 => by cases e3 _ rfl; exact ok_while hp hP hT (b1 c fun _ z => by cases z)
      · rename_i c1 hb
        split at h
        · rename_i hw
          cases h
          have b1 := kSs b K F O Q hp hP hb
          exact conR fun c3 e3 => by cases e3 _ rfl; exact ok_while hp hP hT (oks_post (b1 _ fun _ z => by cases z; rfl) hP (wk_of hw))
        · cases h
      · cases h
    · cases h
  | .for tg it b p, P, cb, c, r, K, F, O, Q, hp, hP, h => by
    simp only [ckS] at h
    split at h
    · rename_i T1 S1 hi
      split at h
      · rename_i hh
        obtain ⟨h1, h2, h3, h4, h5, h6, h7⟩ := hh
        simp only [List.all_eq_true, beq_iff_eq] at h3
        simp only [List.all_eq_true, Bool.not_eq_true'] at h4
        simp only [List.all_eq_true, List.contains_eq_mem, decide_eq_true_eq] at h5 h6
        have hPb : POk (borIx (lend c S1)) (stC T1 tg (lend c S1)) := fun i hi => by
          have z : i ∉ tgIx tg := fun z => by have := borIx_ok i hi; rw [h3 i z] at this; cases this
          rw [getD_cong (stC_off tg z)]
          exact borIx_ok i hi
        have fin : ∀ {mB}, PSs X (pySs b) (tS g W rt (borIx (lend c S1)) (stC T1 tg (lend c S1)) (lend c S1) (lend c S1) mB) → PS X (.For (pyt tg) (pyi it) (pySs b) [] p) (tS g W rt P c c (cb.getD []) (mb (itr s.TT it) fun xs => forLoop (fun x => mb (bnd s.TT tg x) fun _ => mB) xs)) := fun hB =>
          ok_for K F hp hP (sI it tg h7 K O hi) h1 (nm_ok h2) h3 h4 h5 h6 borIx_ok (fun i z => borIx_all z) hB (fun x => fold_pyi it)
        split at h
        · rename_i hb
          cases h
          have b1 := kSs b K F O Q hp hPb hb
          exact conR fun c3 e3 => by cases e3 _ rfl; exact fin (b1 (lend c S1) fun _ z => by cases z)
        · rename_i c1 hb
          split at h
          · rename_i hw
            cases h
            have b1 := kSs b K F O Q hp hPb hb
            exact conR fun c3 e3 => by cases e3 _ rfl; exact fin (oks_post (b1 _ fun _ z => by cases z; rfl) borIx_ok (wk_of hw))
          · cases h
        · cases h
      · cases h
    · cases h
  | .rai x q q2 p, P, cb, c, r, K, F, O, Q, hp, hP, h => by
    simp only [ckS] at h
    split at h
    · rename_i hh
      cases h
      obtain ⟨C, bmB, B, newId, initId, f1, f2, f3, f4, f5, f6⟩ := Q x (by simpa using hh.1)
      exact conR fun c2 _ => ok_rai K f1 f2 f3 f4 f5 hh.2.1 hh.2.2 f6
    · cases h
  | .brk p, P, cb, c, r, K, F, O, Q, hp, hP, h => by
    simp only [ckS] at h
    split at h
    · split at h
      · rename_i hh
        cases h
        exact conR fun c2 _ => ok_brk (refK_of hh.2.1) (POk_of hh.2.2) (wk_of hh.1)
      · cases h
    · cases h
  | .cnt p, P, cb, c, r, K, F, O, Q, hp, hP, h => by
    simp only [ckS] at h
    split at h
    · split at h
      · rename_i hh
        cases h
        exact conR fun c2 _ => ok_cnt (refK_of hh.2.1) (POk_of hh.2.2) (wk_of hh.1)
      · cases h
    · cases h
  | .pas p, P, cb, c, r, K, F, O, Q, hp, hP, h => by
    simp only [ckS, Option.some.injEq] at h
    subst h
    exact conR fun c2 e2 => by cases e2 _ rfl; exact ok_pas
  | .frz i, P, cb, c, r, K, F, O, Q, hp, hP, h => by
    simp only [ckS] at h
    split at h
    · rename_i u hc
      split at h
      · rename_i hn
        cases h
        exact conG (fun c1 e1 hk hP1 ss m2 c' hs => by cases e1; exact oks_frz hP hc hn hs) (by simp)
      · cases h
    · cases h
  | .drop i, P, cb, c, r, K, F, O, Q, hp, hP, h => by
    simp only [ckS] at h
    split at h
    · rename_i hh
      cases h
      exact conG (fun c1 e1 hk hP1 ss m2 c' hs => by cases e1; exact oks_pre hs hk hP1 (wkC_no hh.1).1) (by simp)
    · cases h
theorem kSs : ∀ (ss : Ss) {P : List Nat} {cb : Option Cn} {c : Cn} {r : Option Cn}, CxV g s.N sc s.lv W X → FnV sc X → Ok s g X → EtOk ET g X → PassesOwn (model X.prog X.w) X.A X.env X.xe → POk P c → ckSs s ET sc rt P cb c ss = some r →
    ∀ c1, (∀ c2, r = some c2 → c1 = c2) → PSs X (pySs ss) (tS g W rt P c c1 (cb.getD []) (exs s.TT ss))
  | .nil, P, cb, c, r, K, F, O, Q, hp, hP, h => by
    simp only [ckSs, Option.some.injEq] at h
    subst h
    intro c1 e1
    cases e1 c rfl
    exact oks_nil
  | .cons a ss, P, cb, c, r, K, F, O, Q, hp, hP, h => by
    simp only [ckSs] at h
    intro c1 e1
    split at h
    · rename_i c2 ha
      split at h
      · rename_i hh
        have A := kS a K F O Q hp hP ha
        have B := kSs ss K F O Q hp (POk_of hh.2) h c1 e1
        exact A.1 c2 rfl (refK_of hh.1) (POk_of hh.2) _ _ _ B
      · cases h
    · rename_i ha
      split at h
      · rename_i hn
        cases h
        have A := kS a K F O Q hp hP ha
        cases ss with
        | nil => 
          have z := A.2 rfl c1
          show PSs X (pyS a ++ []) _
          rw [List.append_nil]
          exact z
        | cons _ _ => simp [Ss.isNil] at hn
      · cases h
    · cases h
end
end
end VL


set_option Elab.async false
set_option linter.all false
set_option maxRecDepth 100000
set_option maxHeartbeats 2000000
/-! VL25: a def of the text. -/
namespace VL
open PySem PySem.Spec PyProof.Rows L2
def btL : List String := ["len", "all", "any", "sorted", "list", "tuple", "abs", "int", "sum", "range", "isinstance", "bool", "str", "dict", "min", "max", "enumerate", "zip"]
/-- what stands in the written part -/
structure OkT (P : Program) (w : World) (K : PySem.W.Frag) (mg : Str → Option Value) (base : Heap) (b : B) (s : Sg) (ET : List Str) : Prop where
  fns : ∀ (j : Nat) (F : Fn) (k : Nat), s.TT[j]? = some F → F.lev ≤ k → F.lev ≤ 100000 → ∃ ad fd pn, FnOk P w K mg base (L2.CX P w) k ad fd pn (spV b F) ∧ mg F.nm = some (.ref ad) ∧ PySem.W.keepIn K (.ref ad) = true ∧ Binds K fd pn [] ∧ (F.nm == ("__debug__" : Str)) = false
  gls : ∀ (x : Str) (n : Int), s.GT.lookup x = some n → ∃ tk, mg x = some (.int n tk)
  ets : ∀ x ∈ ET, ∃ (C : Addr) (bmB : List Value) (B newId initId : String), ExcBaseFacts B newId initId bmB ∧ PySem.W.excIn K C bmB newId = true ∧ mg x = some (.ref C) ∧ PySem.W.keepIn K (.ref C) = true ∧ (∀ X : Cx, X.K = K → Raises X (.ref C)) ∧ ∀ H, b.exc x [] (.ref C) none H
  bt : ∀ x ∈ btL, mg (Str.ofString x) = none
  hK : b.K = K
/-- what must be known of a word def, and of the def that calls it -/
def WdT (K : PySem.W.Frag) (mg : Str → Option Value) (base : Heap) (b : B) (qual : Str) (fd : FuncData) (F : Fn) : Prop := ∃ (wk : Dt → Option Dt) (wx : Str → List Dt → Option Dt) (TB : List (Addr × Str)) (a : Str) (gA cA PA' : Addr) (pg : Arguments) (bg : List Stmt) (sg : Scope) (dV kV doc pm cdv ct oc : Value) (an od : Option Addr) (osl : Array (Option Value)) (Ng : List Str),
  F.sem = wdSem wk wx ∧ (∀ H, b.tabs H ↔ LamX.Tabs TB H) ∧ mg F.nm = some (.ref gA) ∧ PySem.W.keepIn K (.ref gA) = true ∧ K.lookup gA = some ⟨oc, od, .func (PySem.W.fnOf F.nm F.nm pg bg sg dV kV doc pm an cdv ct), osl⟩ ∧ PySem.W.codeIn K cdv F.nm = true ∧
  L2.Binds K (PySem.W.fnOf F.nm F.nm pg bg sg dV kV doc pm an cdv ct) [a] [] ∧ FnScope Ng [a] sg ∧ Ng[0]? = some a ∧ Vis sg a ∧ (∀ (X : Cx) q, X.K = K → X.mg = mg → X.A.units + 80 < cLine → LamX.GivesTo X Ng F.nm sg gA cdv bg a q (TTw b wk wx)) ∧ LamX.TabB base mg cA PA' ∧ fd.code = .ref cA ∧
  (PA', qual ++ ".<locals>." ++ "<lambda>") ∈ TB ∧ (∀ q ∈ TB, q.1 = PA' → q.2 = qual ++ ".<locals>." ++ "<lambda>") ∧ (F.nm == ("__debug__" : Str)) = false ∧ (a == ("__debug__" : Str)) = false ∧ (a == ("__classdict__" : Str)) = false
def c0Of (ps : List Sl) (n : Nat) : Cn := ps ++ List.replicate (n - ps.length) .no
theorem c0_getD {ps : List Sl} {n i : Nat} : (c0Of ps n).getD i .no = ps.getD i .no := by
  unfold c0Of
  rw [List.getD_eq_getElem?_getD, List.getD_eq_getElem?_getD]
  by_cases h : i < ps.length
  · rw [List.getElem?_append_left h]
  · rw [List.getElem?_append_right (by omega), List.getElem?_eq_none (l := ps) (by omega)]
    rw [List.getElem?_replicate]
    split <;> rfl
theorem c0_get {ps : List Sl} {n i : Nat} (h : i < ps.length) : (c0Of ps n)[i]? = ps[i]? := by
  unfold c0Of; rw [List.getElem?_append_left h]
section
variable {P : Program} {w : World} {K : PySem.W.Frag} {mg : Str → Option Value} {base : Heap} {b : B} {s : Sg} {ET : List Str} {vs : List V} {ds : List Dt} {H H' : Hp} {f0 f' : Ft} {F : Fn} {N : List Str} {e' : Ev} {σ' : L2.St} {c1 : Cn} {v : V} {d : Dt} {A : List Addr}
theorem start_rel (hm : vs.length = F.ps.length) (hn : F.ps.length ≤ N.length) (rel : Rel ⟨b, vs⟩ F.ps ds (vs.map some) H f0) : Rel ⟨b, vs⟩ (c0Of F.ps N.length) (ds ++ List.replicate (N.length - F.ps.length) .none) (L2.start N vs) H f0 := by
  have hd : ds.length = F.ps.length := by rw [rel.lenE, ← rel.lenC]
  have hs : (L2.start N vs).length = N.length := by unfold L2.start; simp; omega
  refine ⟨by rw [hs]; simp; omega, by rw [hs]; unfold c0Of; simp; omega, fun i sl h n => ?_, fun i h => rel.free i (by rw [c0_getD] at h; exact h), fun i j a hij ho => rel.dis i j a hij (by rw [c0_getD] at ho; exact ho), rel.tabs⟩
  have hi : i < F.ps.length := by
    by_cases z : i < F.ps.length
    · exact z
    · exfalso
      have y := getD_eq h
      rw [c0_getD, List.getD_eq_getElem?_getD, List.getElem?_eq_none (by omega)] at y
      exact n y.symm
  rw [c0_get hi] at h
  obtain ⟨v, h1, h2⟩ := rel.at_ i sl h n
  refine ⟨v, ?_, ?_⟩
  · unfold L2.start
    rw [List.getElem?_append_left (by simp; omega)]
    exact h1
  · rw [show (ds ++ List.replicate (N.length - F.ps.length) PyData.none).getD i .none = ds.getD i .none by
      rw [List.getD_eq_getElem?_getD, List.getElem?_append_left (by omega), ← List.getD_eq_getElem?_getD]]
    exact h2
theorem ret_ok (hm : vs.length = F.ps.length) {σ : L2.St} {e : Ev} (r1 : Rel ⟨b, vs⟩ c1 e' σ' H' f') (s1 : StpS [] (c0Of F.ps N.length) e σ H f0 c1 e' σ' H' f') (hk : refK (c0Of F.ps N.length) c1) (rp : Rep b.K H' F.rt v d A)
    (nw : ∀ a ∈ A, H a = none ∨ ∃ j, ow1 ((c0Of F.ps N.length).getD j .no) = true ∧ a ∈ f0 j) (dA : ∀ k a, refS ((c0Of F.ps N.length).getD k .no) = true → a ∈ A → a ∉ f' k) : RetOk b F vs (e'.take F.ps.length) f0 H H' f' v d A := by
  have ow : ∀ j, ow1 ((c0Of F.ps N.length).getD j .no) = true → ∃ t, F.ps[j]? = some (.own t) := fun j hj => by
    rw [c0_getD] at hj
    cases q : F.ps[j]? with
    | none => rw [List.getD_eq_getElem?_getD, q] at hj; cases hj
    | some sl =>
      rw [getD_eq q] at hj
      cases sl <;> simp [ow1] at hj
      exact ⟨_, rfl⟩
  have rf : ∀ k, refS (F.ps.getD k .no) = true → ∃ t, F.ps[k]? = some (.ref t) ∧ c1[k]? = some (.ref t) := fun k hk' => by
    cases q : F.ps[k]? with
    | none => rw [List.getD_eq_getElem?_getD, q] at hk'; cases hk'
    | some sl =>
      have hlt := (List.getElem?_eq_some_iff.mp q).1
      have z := hk k (by rw [c0_getD]; exact hk')
      rw [c0_get hlt, q] at z
      rw [getD_eq q] at hk'
      cases sl <;> simp [refS] at hk'
      exact ⟨_, rfl, z⟩
  refine ⟨fun a o h n nt => s1.fr a o h (fun i hi => n i (by rw [c0_getD] at hi; exact hi)) nt, s1.old, r1.tabs, rp, fun k t hkt => ?_, fun k a hk' ha => ?_, fun a ha => ?_, fun k a hk' => dA k a (by rw [c0_getD]; exact hk'), fun k l a hkl hk' hl' => ?_⟩
  · obtain ⟨t', h1, h2⟩ := rf k (by rw [getD_eq hkt]; rfl)
    rw [hkt] at h1; cases h1
    obtain ⟨v, q1, q2⟩ := r1.at_ k _ h2 (by intro z; cases z)
    obtain ⟨q2, q3⟩ := (show Rep b.K H' t v (e'.getD k .none) (f' k) ∧ vs[k]? = some v from q2)
    refine ⟨v, q3, ?_⟩
    have hlt := (List.getElem?_eq_some_iff.mp hkt).1
    rw [show (e'.take F.ps.length).getD k .none = e'.getD k .none by
      rw [List.getD_eq_getElem?_getD, List.getElem?_take_of_lt hlt, ← List.getD_eq_getElem?_getD]]
    exact q2
  · obtain ⟨t, h1, h2⟩ := rf k hk'
    rcases s1.gro k a (by rw [getD_eq h2]; rfl) ha with z | ⟨j, hj, z⟩ | ⟨_, z⟩
    · exact .inl z
    · exact .inr (.inr ⟨j, ow j hj, z⟩)
    · exact .inr (.inl z)
  · exact (nw a ha).imp id fun ⟨j, hj, z⟩ => ⟨j, ow j hj, z⟩
  · obtain ⟨t, h1, h2⟩ := rf k hk'
    exact r1.dis k l a hkl (by rw [getD_eq h2]; rfl)
/-- THE RULE -/
theorem def_ok {x qual : Str} {st : Stmt} {f : Addr} {fd : FuncData} {pn : List Str} {body : Ss} {r : Option Cn} (FF : FunD K x qual (defArgs st) (defBody st) (defScope st) [] [] f fd) (S : FnScope s.N pn (defScope st)) (hb : defBody st = pySs body) (hps : F.ps.length = pn.length) (hsem : F.sem = run s.TT s.N.length F.ps.length body) (T : OkT P w K mg base b s ET) (TW : ∀ (j : Nat) (G : Fn), s.WL.contains j = true → s.TT[j]? = some G → WdT K mg base b qual fd G)
    (hck : ckSs s ET (defScope st) F.rt [] none (c0Of F.ps s.N.length) body = some r) (hr : ∀ c2, r = some c2 → F.rt = .sh ∧ refKB (c0Of F.ps s.N.length) c2 = true) : FnOk P w K mg base (L2.CX P w) (s.lv + 1) f fd pn (spV b F) := by
  obtain ⟨oc, od, dV0, kV, doc, pm, an, cdv, ct, osl, rfl, lk, hcd, _, _⟩ := FF.ex
  refine fn_of lk hcd S (fun vs H Q E h => by rw [h.1, hps]) fun A outer s0 H vs Q E hroom hsp => ?_
  obtain ⟨hl, ds, f0, rel, hm⟩ := hsp
  have hn : F.ps.length ≤ s.N.length := by
    have := congrArg List.length S.pre
    rw [List.length_take] at this
    omega
  generalize hX : cxOf (L2.CX P w) P w K mg base s.N qual (defScope st) f cdv A outer s0 H E = X
  have K' : CxV ⟨b, vs⟩ s.N (defScope st) s.lv (fun cls d _ H' => E cls d H') X := by
    subst hX
    exact ⟨T.hK.symm, rfl, S.nd, rfl, rfl, hroom, takes_of rfl rfl rfl rfl, T.bt⟩
  have O : Ok s ⟨b, vs⟩ X := by
    refine ⟨by subst hX; exact T.fns, by subst hX; exact T.gls, fun j G hj hG => ?_⟩
    obtain ⟨wk, wx, TB, a, gA, cA, PA', pg, bg, sg, dV, kV2, doc2, pm2, cdv2, ct2, oc2, an2, od2, osl2, Ng, w1, w2, w3, w4, w5, w6, w7, w8, w9, w10, w11, w12, w13, w14, w15, w16, w17, w18⟩ := TW j G hj hG
    have e1 : X.K = K := by subst hX; rfl
    have e2 : X.mg = mg := by subst hX; rfl
    have e3 : X.A.units + 80 < cLine := by subst hX; have := hroom.un; show (A.deeper _).units + 80 < cLine; omega
    have e4 : X.base = base := by subst hX; rfl
    have e5 : X.env.code = cdv := by subst hX; rfl
    have e6 : X.env.qual = qual ++ ".<locals>." := by subst hX; rfl
    have g1 : ∀ q, LamX.GivesTo X Ng G.nm sg gA cdv2 bg a q (TTw b wk wx) := fun q => w11 X q e1 e2 e3
    have w13' : cdv = .ref cA := w13
    unfold WdOk
    rw [e1, e2, e4, e5, e6]
    exact ⟨wk, wx, TB, a, gA, cA, PA', pg, bg, sg, dV, kV2, doc2, pm2, cdv2, ct2, oc2, an2, od2, osl2, Ng, w1, w2, w3, w4, w5, w6, w7, w8, w9, w10, g1, w12, w13', w14, w15, w16, w17, w18⟩
  have Q' : EtOk ET ⟨b, vs⟩ X := by
    subst hX
    intro y hy
    obtain ⟨C, bmB, B, n1, n2, h1, h2, h3, h4, h5, h6⟩ := T.ets y hy
    exact ⟨C, bmB, B, n1, n2, h1, h2, h3, h4, h5 _ rfl, h6⟩
  have Fv : FnV (defScope st) X := by subst hX; exact fun _ _ => rfl
  have pw : PassesOwn (model X.prog X.w) X.A X.env X.xe := by subst hX; exact passes_of rfl
  rw [hb]
  have main := kSs (W := fun cls d _ H' => E cls d H') (g := ⟨b, vs⟩) (X := X) body K' Fv O Q' pw (fun i hi => by cases hi) hck
  obtain ⟨c1, hc1, hc2⟩ : ∃ c1, (∀ c2, r = some c2 → c1 = c2) ∧ (r = none → c1.length ≠ (c0Of F.ps s.N.length).length) := by
    cases r with
    | none => exact ⟨.no :: c0Of F.ps s.N.length, (fun _ z => by cases z), fun _ => by simp⟩
    | some c2 => exact ⟨c2, (fun _ z => by cases z; rfl), fun z => by cases z⟩
  refine ⟨_, main c1 hc1, _, f0, start_rel hl hn rel, ?_⟩
  have hd : ds.length = F.ps.length := by rw [rel.lenE, ← rel.lenC]
  rw [hsem] at hm
  unfold run at hm
  rw [if_pos hd] at hm
  cases hq : exs s.TT body (ds ++ List.replicate (s.N.length - F.ps.length) .none) with
  | err => rw [hq] at hm; exact hm
  | exc y ys => rw [hq] at hm; exact fun σ'' cls dd H' hx hfr old tb => hm cls dd H' hx (fun a o h n nt => hfr a o h (fun i hi => n i (by rw [c0_getD] at hi; exact hi)) nt) old tb
  | ok q =>
    obtain ⟨fl, e'⟩ := q
    rw [hq] at hm
    cases fl with
    | br => exact hm.elim
    | ct => exact hm.elim
    | nx =>
      intro σ' H' f' r1 s1
      cases hr0 : r with
      | none => exact absurd s1.len (hc2 hr0)
      | some c2 =>
        obtain ⟨h1, h2⟩ := hr c2 hr0
        have hcc := hc1 c2 hr0
        subst hcc
        exact hm .non H' f' [] (ret_ok hl r1 s1 (refK_of h2) (by rw [h1]; exact .sh .non) (fun a z => by cases z) (fun k a _ z => by cases z))
    | rt d =>
      intro v H' f' A' rs
      obtain ⟨⟨c', σ', q1, q2, q3⟩, r2, r3, r4⟩ := rs
      exact hm v H' f' A' (ret_ok hl q1 q2 q3 r2 r3 r4)
end
def ckDef (s : Sg) (ET : List Str) (sc : Scope) (F : Fn) (body : Ss) : Bool := match ckSs s ET sc F.rt [] none (c0Of F.ps s.N.length) body with
  | some none => true
  | some (some c2) => decide (F.rt = .sh) && refKB (c0Of F.ps s.N.length) c2
  | none => false
theorem ckDef_of {s : Sg} {ET : List Str} {sc : Scope} {F : Fn} {body : Ss} (h : ckDef s ET sc F body = true) : ∃ r, ckSs s ET sc F.rt [] none (c0Of F.ps s.N.length) body = some r ∧ ∀ c2, r = some c2 → F.rt = .sh ∧ refKB (c0Of F.ps s.N.length) c2 = true := by
  unfold ckDef at h
  split at h
  · rename_i q
    exact ⟨_, q, fun _ z => by cases z⟩
  · rename_i c2 q
    simp only [Bool.and_eq_true, decide_eq_true_eq] at h
    exact ⟨_, q, fun _ z => by cases z; exact h⟩
  · cases h
end VL


set_option Elab.async false
set_option linter.all false
set_option maxRecDepth 100000
set_option maxHeartbeats 2000000
/-! VL26: words for plain reckoning with the trees' meaning. -/
namespace VL
open PySem PySem.Spec PyProof.Rows L2
/-- the same but for the slots vs -/
def Agr (vs : List Nat) (e e' : Ev) : Prop := e'.length = e.length ∧ ∀ j, j ∉ vs → e'.getD j .none = e.getD j .none
theorem Agr.refl {vs : List Nat} {e : Ev} : Agr vs e e := ⟨rfl, fun _ _ => rfl⟩
theorem Agr.trans {vs : List Nat} {e e1 e2 : Ev} (a : Agr vs e e1) (b : Agr vs e1 e2) : Agr vs e e2 := ⟨b.1.trans a.1, fun j h => (b.2 j h).trans (a.2 j h)⟩
theorem Agr.set {vs : List Nat} {e e' : Ev} {i : Nat} {d : Dt} (a : Agr vs e e') (h : i ∈ vs) : Agr vs e (e'.set i d) :=
  ⟨by rw [List.length_set]; exact a.1, fun j hj => by rw [setE_ne (show j ≠ i from fun z => hj (by rw [z]; exact h))]; exact a.2 j hj⟩
theorem ev_ext {e e' : Ev} (hl : e'.length = e.length) (h : ∀ j, e'.getD j .none = e.getD j .none) : e' = e := by
  apply List.ext_getElem hl
  intro i h1 h2
  have z := h i
  rw [List.getD_eq_getElem?_getD, List.getD_eq_getElem?_getD, List.getElem?_eq_getElem h1, List.getElem?_eq_getElem h2] at z
  exact z
theorem giveBack_agr {vs : List Nat} {e e' : Ev} (a : Agr vs e e') : giveBack e vs e' = e := by
  refine ev_ext (by rw [giveBack_len]; exact a.1) fun j => ?_
  by_cases hj : j ∈ vs
  · by_cases hl : j < e'.length
    · exact giveBack_in hj hl
    · rw [List.getD_eq_getElem?_getD, List.getD_eq_getElem?_getD, List.getElem?_eq_none (by rw [giveBack_len]; omega), List.getElem?_eq_none (by have := a.1; omega)]
  · rw [giveBack_off hj]; exact a.2 j hj
theorem lcLoop_val {f : Dt → M (Option Dt)} {o : Dt → Option Dt} {vs : List Nat} {e0 : Ev} : ∀ {xs : List Dt} {e : Ev}, Agr vs e0 e → (∀ x ∈ xs, ∀ e', Agr vs e0 e' → ∃ e'', f x e' = .ok (o x, e'') ∧ Agr vs e0 e'') →
    ∃ e', lcLoop f xs e = .ok (xs.filterMap o, e') ∧ Agr vs e0 e'
  | [], e, a, _ => ⟨e, rfl, a⟩
  | x :: xs, e, a, h => by
    obtain ⟨e1, h1, a1⟩ := h x List.mem_cons_self e a
    obtain ⟨e2, h2, a2⟩ := lcLoop_val (xs := xs) a1 fun y hy => h y (List.mem_cons_of_mem _ hy)
    refine ⟨e2, ?_, a2⟩
    unfold lcLoop
    rw [h1]
    simp only
    rw [h2]
    cases q : o x <;> simp [List.filterMap_cons, q]
/-- a comprehension's value -/
theorem lc_val {T : List Fn} {tg : Tg} {it : It} {c : Oe} {a : E} {own : List (Str × Nat)} {sc : Scope} {p : Pos} {xs : List Dt} {e : Ev} {o : Dt → Option Dt} (hi : itr T it e = .ok (xs, e)) (hz : xs.length ≤ sizeLine)
    (h : ∀ x ∈ xs, ∀ e', Agr (own.map (·.2)) e e' → ∃ e'', lcBody T tg (cnd T c) (ev T a) x e' = .ok (o x, e'') ∧ Agr (own.map (·.2)) e e'') :
    ev T (.lc tg it c a own sc p) e = .ok (.list (xs.filterMap o), e) := by
  obtain ⟨e1, h1, a1⟩ := lcLoop_val (f := lcBody T tg (cnd T c) (ev T a)) (e0 := e) Agr.refl h
  show mb (itr T it) (fun xs => fun e => noExc (match (if xs.length ≤ sizeLine then lcLoop (lcBody T tg (cnd T c) (ev T a)) xs e else .err) with
       | .ok (ys, e') => .ok (PyData.list ys, giveBack e (own.map (·.2)) e')
       | .exc c ys => .exc c ys
       | .err => .err)) e = _
  unfold mb
  rw [hi]
  simp only [hz, if_true, h1]
  rw [giveBack_agr a1]
  rfl
/-- a loop told turn by turn: E i, the slots ahead of turn i -/
theorem forLoop_val {f : Dt → M Fl} : ∀ {xs : List Dt} {E : Nat → Ev} (k : Nat), (∀ i x, xs[i]? = some x → f x (E (k + i)) = .ok (.nx, E (k + i + 1))) → forLoop f xs (E k) = .ok (.nx, E (k + xs.length))
  | [], E, k, _ => rfl
  | x :: xs, E, k, h => by
    have h0 := h 0 x rfl
    unfold forLoop
    rw [show k + 0 = k from rfl] at h0
    rw [h0]
    simp only
    have ih := forLoop_val (xs := xs) (E := E) (k + 1) fun i y hy => by
      have z := h (i + 1) y (by simpa using hy)
      rw [show k + (i + 1) = k + 1 + i by omega] at z
      exact z
    rw [ih, List.length_cons]
    rw [show k + 1 + xs.length = k + (xs.length + 1) by omega]
end VL


set_option Elab.async false
set_option linter.all false
set_option maxRecDepth 100000
set_option maxHeartbeats 1000000
/-! VL30: what stands in a suite behind except: a small language that is reckoned ahead. -/
namespace VL
open PySem PySem.Spec PyProof.Rows L2
/-! ### list.count of data -/
def rCountD (K : PySem.W.Frag) : V → List V → Hp → VK → Prop := fun x xs H Q => ∃ (a : Addr) (y : V) (d : Dt) (ds : List Dt), x = V.ref a ∧ xs = [y] ∧ Dp K H (V.ref a) (.list ds) ∧ Dp K H y d ∧ SeqAt.shaped (.list ds) = true ∧ SeqAt.shaped d = true ∧ Q (.int (ds.countP fun z => PyData.eqv z d : Nat)) H
theorem mt_countD {X : Cx} (hu : X.A.units + 65 < cLine) : MtR X "list.count" (rCountD X.K) := by
  intro pins s σ H x xs v us Q I rx rxs h
  obtain ⟨a, y, d, ds, rfl, rfl, hl, hy, sl, sd, q⟩ := h
  cases rx
  cases rxs with
  | cons ry rt =>
    rename_i uy ut
    cases rt
    obtain ⟨bs, r1⟩ := Dp.reads I d y uy hy ry
    have hxs : PyData.canLayAll0 ds = true := SeqAt.canLay_of_shaped sl
    have hroom : X.A.units + 1 + min (PyData.depthAll ds) d.depth < cLine := room_in_shaped sd hu
    cases hl with
    | lst hs ha =>
      obtain ⟨its, rv, ⟨⟨cls, dd, data, sls⟩, n, ho, hc, hdn, hdt⟩, hlen⟩ := I.list hs
      simp only at hc hdt
      subst hc hdt
      obtain ⟨as, h4⟩ := Dp.readsAll I ds _ its ha rv
      have hmap : its.map (SeqAt.readOf s.heap) = ds := SeqAt.readsAll_map ds its as hxs h4
      have hcp : its.countP (fun u => PyData.eqv (SeqAt.readOf s.heap u) d) = ds.countP fun z => PyData.eqv z d := by
        rw [← hmap, List.countP_map]
        rfl
      refine call_meets PySem.F.slot_list_count ⟨_, ho, rfl⟩ PySem.F.entry_list_count (PySem.F.args_list_count_2 _ _)
        (SeqAt.list_countAt a its.toArray n dd sls uy (fun u => PyData.eqv (SeqAt.readOf s.heap u) d)) ⟨ho, SeqAt.items_eqAt (vs := its.toArray) (show ReadsAll s.heap its.toArray.toList ds as from h4) r1 hxs (SeqAt.canLay_of_shaped sd) hroom, ?_⟩
      refine ⟨.int _, H, I.tok _, ⟨s.toks, ?_⟩, q⟩
      show Value.int ((its.countP (fun u => PyData.eqv (SeqAt.readOf s.heap u) d) : Nat) : Int) s.toks = _
      rw [hcp]

/-! ### the trees -/
mutual
inductive HX where
  | var (x : Str) (i : Nat) (p : Pos)
  | str (s : Str) (p : Pos)
  | int (n : Int) (p : Pos)
  | bl (b : Bool) (p : Pos)
  | non (p : Pos)
  | isi (x : Str) (i : Nat) (c : Str) (q q1 q2 p : Pos)
  | fld (x : Str) (i : Nat) (f : Str) (q p : Pos)
  | lst (es : HXs) (p : Pos)
  | tup (es : HXs) (p : Pos)
  | add (a b : HX) (p : Pos)
  | cnt (x : Str) (i : Nat) (q0 : Pos) (b : HX) (q p : Pos)
  | idx (x : Str) (i : Nat) (q0 : Pos) (b : HX) (q p : Pos)
  | sub (a i : HX) (p : Pos)
  | eq (a b : HX) (p : Pos)
  | and (a b : HX) (p : Pos)
  | not (a : HX) (p : Pos)
  | ife (c a b : HX) (p : Pos)
inductive HXs where
  | nil
  | cons (a : HX) (r : HXs)
end
mutual
inductive HS where
  | set (x : Str) (i : Nat) (e : HX) (q p : Pos)
  | ife (c : HX) (a b : HSs) (p : Pos)
  | ret (e : HX) (p : Pos)
inductive HSs where
  | nil
  | cons (a : HS) (r : HSs)
end
mutual
def pyH : HX → Expr
  | .var x _ p => .Name x p
  | .str s p => .Constant (.str s) 0 p
  | .int n p => .Constant (.int n) 0 p
  | .bl b p => .Constant (.bool b) 0 p
  | .non p => .Constant .none 0 p
  | .isi x _ c q q1 q2 p => .Call (.Name (Str.ofString "isinstance") q) [.Name x q1, .Name c q2] [] p
  | .fld x _ f q p => .Attribute (.Name x q) f p
  | .lst es p => .List (pyHs es) p
  | .tup es p => .Tuple (pyHs es) 0 p
  | .add a b p => .BinOp (pyH a) .Add (pyH b) p
  | .cnt x _ q0 b q p => .Call (.Attribute (.Name x q0) (Str.ofString "count") q) [pyH b] [] p
  | .idx x _ q0 b q p => .Call (.Attribute (.Name x q0) (Str.ofString "index") q) [pyH b] [] p
  | .sub a i p => .Subscript (pyH a) (pyH i) p
  | .eq a b p => .Compare (pyH a) [.Eq] [pyH b] p
  | .and a b p => .BoolOp .And [pyH a, pyH b] p
  | .not a p => .UnaryOp .Not (pyH a) p
  | .ife c a b p => .IfExp (pyH c) (pyH a) (pyH b) p
def pyHs : HXs → List Expr
  | .nil => []
  | .cons a r => pyH a :: pyHs r
end
mutual
def pyHS : HS → Stmt
  | .set x _ e q p => .Assign [.Name x q] (pyH e) p
  | .ife c a b p => .If (pyH c) (pyHSs a) (pyHSs b) p
  | .ret e p => .Return (some (pyH e)) p
def pyHSs : HSs → List Stmt
  | .nil => []
  | .cons a r => pyHS a :: pyHSs r
end
/-! ### what they give -/
structure HC where
  N : List Str
  sc : Scope
  en : List (Option Dt)
  ex : Option (Str × Nat)
  y : Str
  fs : List (Str × Dt)
  cs : List Str
/-- every error class comes of SquareError, this of ValueError -/
def isC (y c : Str) : Bool := y == c || c == "SquareError" || c == "ValueError"
def atomD : Dt → Bool
  | .none => true
  | .bool _ => true
  | .int _ => true
  | .str _ => true
  | _ => false
def slotB (h : HC) (x : Str) (i : Nat) : Bool := decide (h.N[i]? = some x) && visB h.sc x && nmB x
section
variable (h : HC)
mutual
def hev : HX → Option Dt
  | .var x i _ => if slotB h x i = true then h.en.getD i none else none
  | .str s _ => some (.str s)
  | .int n _ => some (.int n)
  | .bl b _ => some (.bool b)
  | .non _ => some .none
  | .isi x i c _ _ _ _ => if h.ex = some (x, i) ∧ slotB h x i = true ∧ h.cs.contains c = true ∧ h.fs = [] ∧ glB h.sc (Str.ofString "isinstance") = true ∧ glB h.sc c = true then some (.bool (isC h.y c)) else none
  | .fld x i f _ _ => if h.ex = some (x, i) ∧ slotB h x i = true then h.fs.lookup f else none
  | .lst es _ => (hevs es).bind fun ds => if ds.all atomD = true ∧ ds.length ≤ 1000 then some (.list ds) else none
  | .tup es _ => (hevs es).bind fun ds => if ds.all atomD = true ∧ ds.length ≤ 1000 then some (.tuple ds) else none
  | .add a b _ => (hev a).bind fun x => (hev b).bind fun y => match x, y with
    | .list xs, .list ys => if xs.length ≤ 1000 ∧ ys.length ≤ 1000 then some (.list (xs ++ ys)) else none
    | _, _ => none
  | .cnt x i _ b q p => if slotB h x i = true ∧ (q.endLine == p.line) = true then (h.en.getD i none).bind fun l => (hev b).bind fun d => match l with
      | .list xs => if SeqAt.shaped d = true ∧ SeqAt.shaped (.list xs) = true then some (.int (xs.countP fun z => PyData.eqv z d : Nat)) else none
      | _ => none
    else none
  | .idx x i _ b q p => if slotB h x i = true ∧ (q.endLine == p.line) = true then (h.en.getD i none).bind fun l => (hev b).bind fun d => match l with
      | .list xs => if SeqAt.shaped d = true ∧ SeqAt.shaped (.list xs) = true then (xs.findIdx? fun z => PyData.eqv z d).map fun j => .int (j : Nat) else none
      | _ => none
    else none
  | .sub a i _ => (hev a).bind fun x => (hev i).bind fun y => match x, y with
    | .list xs, .int k => L2.atI xs k
    | _, _ => none
  | .eq a b _ => (hev a).bind fun x => (hev b).bind fun y => (eqD x y).map .bool
  | .and a b _ => (hev a).bind fun x => match x with
    | .bool true => (hev b).bind fun y => match y with
      | .bool k => some (.bool k)
      | _ => none
    | .bool false => some (.bool false)
    | _ => none
  | .not a _ => (hev a).bind fun x => match x with
    | .bool k => some (.bool (!k))
    | _ => none
  | .ife c a b _ => (hev c).bind fun x => match x with
    | .bool true => hev a
    | .bool false => hev b
    | _ => none
def hevs : HXs → Option (List Dt)
  | .nil => some []
  | .cons a r => (hev a).bind fun x => (hevs r).map fun xs => x :: xs
end
end
def HC.up (h : HC) (en : List (Option Dt)) : HC := { h with en := en }
mutual
/-- what comes back, or the slots behind -/
def hrun (h : HC) : HS → Option (Option Dt × List (Option Dt))
  | .set x i e _ _ => if h.N[i]? = some x ∧ h.sc.names.lookup x = some .local ∧ (h.ex.map (·.2)) ≠ some i ∧ i < h.en.length then (hev h e).map fun d => (none, h.en.set i (some d)) else none
  | .ife c a b _ => (hev h c).bind fun x => match x with
    | .bool true => hruns h a
    | .bool false => hruns h b
    | _ => none
  | .ret e _ => (hev h e).map fun d => (some d, [])
def hruns (h : HC) : HSs → Option (Option Dt × List (Option Dt))
  | .nil => some (none, h.en)
  | .cons a r => (hrun h a).bind fun q => match q with
    | (some d, en) => some (some d, en)
    | (none, en) => hruns (h.up en) r
end
/-! ### readings -/
section
variable {K : PySem.W.Frag} {H H' : Hp} {v : V} {d : Dt}
theorem Vw.atom (h : Vw K H v d) (a : atomD d = true) : Sh K H v d := by
  rcases h with h | ⟨p, xs, ds, _, e, _⟩
  · exact h
  · subst e; simp [atomD] at a
theorem Sh.vw (h : Sh K H v d) : Vw K H v d := .inl h
structure RH (K : PySem.W.Frag) (h : HC) (a : Addr) (dd : Option Addr) (σ : L2.St) (H : Hp) : Prop where
  sl : ∀ i d, h.en.getD i none = some d → ∃ v, σ[i]? = some (some v) ∧ Vw K H v d
  ex : ∀ x i, h.ex = some (x, i) → σ[i]? = some (some (.ref a))
  fd : ∀ f d, h.fs.lookup f = some d → ∃ da fs v, dd = some da ∧ H da = some (.xd fs) ∧ fs.lookup f = some v ∧ Sh K H v d
  len : σ.length = h.N.length
theorem RH.mono {h : HC} {a : Addr} {dd : Option Addr} {σ : L2.St} (r : RH K h a dd σ H) (s : Same H H') : RH K h a dd σ H' :=
  ⟨fun i d e => let ⟨v, h1, h2⟩ := r.sl i d e; ⟨v, h1, h2.mono s⟩, r.ex, fun f d e => let ⟨da, fs, v, h1, h2, h3, h4⟩ := r.fd f d e; ⟨da, fs, v, h1, s _ _ h2, h3, h4.mono (Im.of s)⟩, r.len⟩
def hV (K : PySem.W.Frag) (h : HC) (a : Addr) (dd : Option Addr) (d : Dt) : TE := fun σ H Q => RH K h a dd σ H ∧ ∀ v H', Same H H' → Vw K H' v d → Q v H'
def hA (K : PySem.W.Frag) (h : HC) (a : Addr) (dd : Option Addr) (ds : List Dt) : TA := fun σ H Q => RH K h a dd σ H ∧ ∀ vs H', Same H H' → ShA K H' vs ds → Q vs H'
structure HCx (h : HC) (a : Addr) (dd : Option Addr) (X : Cx) : Prop where
  hN : X.N = h.N
  hnd : h.N.Nodup
  hsc : X.env.scope = h.sc
  un : X.A.units + 66 < cLine
  isi : ∀ (x : Str) (i : Nat) (c : Str) (q q1 q2 p : Pos), h.ex = some (x, i) → c ∈ h.cs → h.fs = [] → slotB h x i = true → glB h.sc (Str.ofString "isinstance") = true → glB h.sc c = true →
    PE X (.Call (.Name (Str.ofString "isinstance") q) [.Name x q1, .Name c q2] [] p) (fun σ H Q => σ[i]? = some (some (.ref a)) ∧ Q (.bl (isC h.y c)) H)
  fld : ∀ (x : Str) (i : Nat) (f : Str) (q p : Pos) (d : Dt), h.ex = some (x, i) → slotB h x i = true → h.fs.lookup f = some d →
    PE X (.Attribute (.Name x q) f p) (fun σ H Q => σ[i]? = some (some (.ref a)) ∧ ∃ da fs v, dd = some da ∧ H da = some (.xd fs) ∧ fs.lookup f = some v ∧ Q v H)
theorem HCx.up {h : HC} {a : Addr} {dd : Option Addr} {X : Cx} (c : HCx h a dd X) (en : List (Option Dt)) : HCx (h.up en) a dd X := ⟨c.hN, c.hnd, c.hsc, c.un, c.isi, c.fld⟩
theorem star_pyH {es : List Expr} {env : Env} (e : HX) : starEach (pyH e :: es) env = (false, eval (pyH e) env) :: starEach es env := by cases e <;> rfl
theorem star_pyHs {env : Env} {p : Pos} : ∀ (es : HXs), (backTo p (starEach (pyHs es) env)).any (·.1) = false
  | .nil => rfl
  | .cons a r => by
    show (backTo p (starEach (pyH a :: pyHs r) env)).any (·.1) = false
    rw [star_pyH a]
    have z := star_pyHs (env := env) (p := p) r
    unfold backTo at z ⊢
    simp only [List.map_cons, List.any_cons, Bool.false_or]
    exact z
theorem behind_pyH {o : CmpOp} (e : HX) : behindInMarks o (pyH e) = false := by cases e <;> rfl
theorem plain_pyH (e : HX) : PlainIx (pyH e) := by cases e <;> exact fun _ _ => rfl
theorem few_pyH {q p : Pos} {env : Env} (e : HX) : ((backTo p (starEach [pyH e] env)).all (fun x => !x.1) && (backToKw p (keywordEach [] env)).all (fun x => x.1.isSome)
      && decide (([pyH e] : List Expr).length + ([] : List Keyword).length + (if ([] : List Keyword).isEmpty then 0 else 1) < 30)) = true := by
  rw [star_pyH e]; rfl
theorem swaps_pyH {t : Option Expr} {l : Nat} {env : Env} (e : HX) : swapsWith (pyH e) t l env = pure false := by cases e <;> rfl
theorem true_pyH {env : Env} (e : HX) : (∃ c a b p, e = .eq a b p ∧ c = 0) ∨ True := .inr trivial
variable {h : HC} {a : Addr} {dd : Option Addr} {X : Cx}
theorem slot_of {x : Str} {i : Nat} (s : slotB h x i = true) : h.N[i]? = some x ∧ visB h.sc x = true ∧ (x == ("__debug__" : Str)) = false ∧ (x == ("__classdict__" : Str)) = false := by
  unfold slotB nmB at s
  simp only [Bool.and_eq_true, decide_eq_true_eq, Bool.not_eq_true'] at s
  exact ⟨s.1.1, s.1.2, s.2.1, s.2.2⟩
theorem h_var {x : Str} {i : Nat} {q : Pos} (C : HCx h a dd X) (s : slotB h x i = true) : PE X (.Name x q) (tVar i) := by
  obtain ⟨h1, h2, h3, h4⟩ := slot_of s
  exact pe_var (by rw [C.hN]; exact h1) (by rw [C.hsc]; exact vis_of h2) h3 h4
theorem le_line {n : Nat} (h : n ≤ 2000) : n ≤ sizeLine := by rw [sizeLine_eq]; omega
theorem h_two {r : R2} {d1 d2 d : Dt} (hr : ∀ x y H Q, Vw X.K H x d1 → Vw X.K H y d2 → (∀ v H', Same H H' → Vw X.K H' v d → Q v H') → r x y H Q) (σ : L2.St) (H : Hp) (Q : VK) (w : hV X.K h a dd d σ H Q) : tOp r (hV X.K h a dd d1) (hV X.K h a dd d2) σ H Q :=
  ⟨w.1, fun x H1 s1 v1 => ⟨w.1.mono s1, fun y H2 s2 v2 => hr x y H2 Q (v1.mono s2) v2 fun v H' s3 v3 => w.2 v H' (Same.trans s1 (Same.trans s2 s3)) v3⟩⟩
def hB (K : PySem.W.Frag) (h : HC) (a : Addr) (dd : Option Addr) (k : Bool) : TT := fun σ H Q => RH K h a dd σ H ∧ ∀ H', Same H H' → Q k H'
theorem pe_off {X : Cx} {e : Expr} : PE X e (fun _ _ _ => False) := ⟨fun _ _ _ _ _ _ q => q.elim⟩
theorem pw_off {X : Cx} {e : Expr} : PW X e (fun _ _ _ => False) := ⟨fun _ _ _ _ _ _ _ q => q.elim⟩
theorem h_gen {e : Expr} {w : Dt → Prop} (hp : ∀ {d}, w d → PE X e (hV X.K h a dd d)) (he : ∀ whole, isTrue e X.env whole = (do let v ← whole; standAt e.pos; holding [v] (truthy v))) :
    (∀ {d}, w d → PE X e (hV X.K h a dd d)) ∧ ∀ {k}, w (.bool k) → PT X e (hB X.K h a dd k) :=
  ⟨hp, fun {k} z => PT.imp (pt_val (hp z) he) fun σ H Q g => ⟨g.1, fun v H1 s1 v1 => ⟨k, v1.bool, g.2 H1 s1⟩⟩⟩
theorem Vw.canD (w : Vw K H v d) (s : SeqAt.shaped d = true) : Dp K H v d := w.dp (SeqAt.canLay_of_shaped s)
mutual
theorem hET (C : HCx h a dd X) : ∀ (e : HX), (∀ {d : Dt}, hev h e = some d → PE X (pyH e) (hV X.K h a dd d)) ∧ ∀ {k : Bool}, hev h e = some (.bool k) → PT X (pyH e) (hB X.K h a dd k)
  | .var x i p => h_gen (w := fun d => hev h (.var x i p) = some d) (fun {d} w => by
    simp only [hev] at w
    split at w
    · rename_i s
      refine PE.imp (h_var C s) fun σ H Q q => ?_
      obtain ⟨v, h1, h2⟩ := q.1.sl i d w
      exact ⟨v, h1, q.2 v H (Same.refl H) h2⟩
    · cases w) fun _ => rfl
  | .str s p => h_gen (w := fun d => hev h (.str s p) = some d) (fun {d} w => by cases w; exact PE.imp pe_str fun σ H Q q => q.2 _ H (Same.refl H) (.inl (.str s))) fun _ => rfl
  | .int n p => h_gen (w := fun d => hev h (.int n p) = some d) (fun {d} w => by cases w; exact PE.imp pe_int fun σ H Q q => q.2 _ H (Same.refl H) (.inl (.int n))) fun _ => rfl
  | .bl b p => h_gen (w := fun d => hev h (.bl b p) = some d) (fun {d} w => by cases w; exact PE.imp pe_bl fun σ H Q q => q.2 _ H (Same.refl H) (.inl (.bl b))) fun _ => rfl
  | .non p => h_gen (w := fun d => hev h (.non p) = some d) (fun {d} w => by cases w; exact PE.imp pe_non fun σ H Q q => q.2 _ H (Same.refl H) (.inl .non)) fun _ => rfl
  | .isi x i c q q1 q2 p => h_gen (w := fun d => hev h (.isi x i c q q1 q2 p) = some d) (fun {d} w => by
    simp only [hev] at w
    split at w
    · rename_i z
      cases w
      obtain ⟨z1, z2, z3, z4, z5, z6⟩ := z
      exact PE.imp (C.isi x i c q q1 q2 p z1 (by simpa using z3) z4 z2 z5 z6) fun σ H Q g => ⟨g.1.ex x i z1, g.2 _ H (Same.refl H) (.inl (.bl _))⟩
    · cases w) fun _ => rfl
  | .fld x i f q p => h_gen (w := fun d => hev h (.fld x i f q p) = some d) (fun {d} w => by
    simp only [hev] at w
    split at w
    · rename_i z
      refine PE.imp (C.fld x i f q p d z.1 z.2 w) fun σ H Q g => ⟨g.1.ex x i z.1, ?_⟩
      obtain ⟨da, fs, v, h1, h2, h3, h4⟩ := g.1.fd f d w
      exact ⟨da, fs, v, h1, h2, h3, g.2 v H (Same.refl H) (.inl h4)⟩
    · cases w) fun _ => rfl
  | .lst es p => h_gen (w := fun d => hev h (.lst es p) = some d) (fun {d} w => by
    simp only [hev, Option.bind_eq_some_iff] at w
    obtain ⟨ds, h1, w⟩ := w
    split at w
    · rename_i z
      cases w
      refine PE.imp (pe_lst (hEs C es h1 z.1)) fun σ H Q g => ⟨g.1, fun vs H1 s1 sh => ⟨by rw [sh.length]; exact le_line (by omega), fun p hp => ?_⟩⟩
      exact g.2 _ _ (Same.trans s1 (same_upd hp)) (.inr ⟨p, vs, ds, rfl, rfl, upd_same, sh.mono (Im.of (same_upd hp))⟩)
    · cases w) fun _ => rfl
  | .tup es p => h_gen (w := fun d => hev h (.tup es p) = some d) (fun {d} w => by
    simp only [hev, Option.bind_eq_some_iff] at w
    obtain ⟨ds, h1, w⟩ := w
    split at w
    · rename_i z
      cases w
      refine PE.imp (pe_tup (hEs C es h1 z.1)) fun σ H Q g => ⟨g.1, fun vs H1 s1 sh => ⟨by rw [sh.length]; exact le_line (by omega), fun p hp => ?_⟩⟩
      exact g.2 _ _ (Same.trans s1 (same_upd hp)) (.inl (.tup upd_same (sh.mono (Im.of (same_upd hp)))))
    · cases w) fun _ => rfl
  | .add x y p => h_gen (w := fun d => hev h (.add x y p) = some d) (fun {d} w => by
    simp only [hev, Option.bind_eq_some_iff] at w
    obtain ⟨d1, w1, d2, w2, w⟩ := w
    split at w
    · rename_i xs ys
      split at w
      · rename_i z
        cases w
        refine PE.imp (pe_op op_catL ((hET C x).1 w1) ((hET C y).1 w2)) (h_two fun u v H Q v1 v2 g => ?_)
        obtain ⟨l, xs', rfl, r1, s1⟩ := v1.lst
        obtain ⟨l2, ys', rfl, r2, s2⟩ := v2.lst
        refine ⟨l, l2, xs', ys', rfl, rfl, r1, r2, by rw [s1.length, s2.length]; exact le_line (by omega), fun p hp => ?_⟩
        exact g _ _ (same_upd hp) (.inr ⟨p, _, _, rfl, rfl, upd_same, (s1.append s2).mono (Im.of (same_upd hp))⟩)
      · cases w
    · cases w) fun _ => rfl
  | .cnt x i q0 b q p => h_gen (w := fun d => hev h (.cnt x i q0 b q p) = some d) (fun {d} w => by
    simp only [hev] at w
    split at w
    · rename_i z
      simp only [Option.bind_eq_some_iff] at w
      obtain ⟨l, w1, e, w2, w⟩ := w
      split at w
      · rename_i xs
        split at w
        · rename_i zz
          cases w
          refine PE.imp (pe_bm PySem.F.plainAttrs_list PySem.F.slot_list_count PySem.F.type_list_count (mt_countD (by have := C.un; omega)) (h_var C z.1) (pa_cons ((hET C b).1 w2) pa_nil (star_pyH b)) rfl (few_pyH (q := q) b) z.2 (star_pyH b) rfl) fun σ H Q g => ?_
          obtain ⟨v, h1, h2⟩ := g.1.sl i _ w1
          have h2' := h2
          obtain ⟨ad, xs', rfl, r1, s1⟩ := h2.lst
          refine ⟨_, h1, (.inl ⟨rfl, _, .inl r1⟩), g.1, fun y H1 s2 v2 => ⟨ad, y, e, xs, rfl, rfl, (h2'.mono s2).canD zz.2, v2.canD zz.1, zz.2, zz.1, ?_⟩⟩
          exact g.2 _ H1 s2 (.inl (.int _))
        · cases w
      · cases w
    · cases w) fun _ => rfl
  | .idx x i q0 b q p => h_gen (w := fun d => hev h (.idx x i q0 b q p) = some d) (fun {d} w => by
    simp only [hev] at w
    split at w
    · rename_i z
      simp only [Option.bind_eq_some_iff] at w
      obtain ⟨l, w1, e, w2, w⟩ := w
      split at w
      · rename_i xs
        split at w
        · rename_i zz
          simp only [Option.map_eq_some_iff] at w
          obtain ⟨j, hj, rfl⟩ := w
          obtain ⟨j1, j2, j3⟩ := List.findIdx?_eq_some_iff_getElem.mp hj
          refine PE.imp (pe_bm PySem.F.plainAttrs_list PySem.F.slot_list_index PySem.F.type_list_index (mt_indexD (by have := C.un; omega)) (h_var C z.1) (pa_cons ((hET C b).1 w2) pa_nil (star_pyH b)) rfl (few_pyH (q := q) b) z.2 (star_pyH b) rfl) fun σ H Q g => ?_
          obtain ⟨v, h1, h2⟩ := g.1.sl i _ w1
          have h2' := h2
          obtain ⟨ad, xs', rfl, r1, s1⟩ := h2.lst
          refine ⟨_, h1, (.inl ⟨rfl, _, .inl r1⟩), g.1, fun y H1 s2 v2 => ⟨ad, y, e, xs, j, xs[j], rfl, rfl, (h2'.mono s2).canD zz.2, v2.canD zz.1, zz.2, zz.1, List.getElem?_eq_getElem j1, j2, fun m z' hm hz' => ?_, ?_⟩⟩
          · have hml : m < xs.length := by omega
            rw [List.getElem?_eq_getElem hml] at hz'
            cases hz'
            simpa using j3 m hm
          · exact g.2 _ H1 s2 (.inl (.int _))
        · cases w
      · cases w
    · cases w) fun _ => rfl
  | .sub x y p => h_gen (w := fun d => hev h (.sub x y p) = some d) (fun {d} w => by
    simp only [hev, Option.bind_eq_some_iff] at w
    obtain ⟨d1, w1, d2, w2, w⟩ := w
    split at w
    · rename_i xs k
      refine PE.imp (pe_ix ix_list ((hET C x).1 w1) ((hET C y).1 w2) (plain_pyH y)) (h_two fun u v H Q v1 v2 g => ?_)
      obtain ⟨l, xs', rfl, r1, s1⟩ := v1.lst
      cases v2.int
      unfold L2.atI at w
      simp only [Option.bind_eq_some_iff] at w
      obtain ⟨n, hn, hd⟩ := w
      obtain ⟨v, e1, e2⟩ := s1.get hd
      refine ⟨l, xs', k, v, rfl, rfl, .inl r1, ?_, g v H (Same.refl H) (.inl e2)⟩
      unfold L2.atI
      rw [s1.length, hn]
      exact e1
    · cases w) fun _ => rfl
  | .eq x y p => ⟨(fun {d} w => by
    simp only [hev, Option.bind_eq_some_iff, Option.map_eq_some_iff] at w
    obtain ⟨d1, w1, d2, w2, b, w, rfl⟩ := w
    refine PE.imp (pe_cmpR (opC_ok .Eq (by have := C.un; omega)) ((hET C x).1 w1) ((hET C y).1 w2) (behind_pyH y)) (h_two fun u v H Q v1 v2 g => ?_)
    exact ⟨d1, d2, b, v1, v2, w, g _ H (Same.refl H) (.inl (.bl b))⟩), (fun {k} w => by
    simp only [hev, Option.bind_eq_some_iff, Option.map_eq_some_iff] at w
    obtain ⟨d1, w1, d2, w2, b, w, e⟩ := w
    cases e
    refine PT.imp (pt_cmpR (opC_ok .Eq (by have := C.un; omega)) ((hET C x).1 w1) ((hET C y).1 w2) (behind_pyH y)) fun σ H Q g => h_two (d := .bool k) (fun u v H Q v1 v2 g => ?_) σ H _ ⟨g.1, fun v H' s1 v1 => ⟨k, v1.bool, g.2 H' s1⟩⟩
    exact ⟨d1, d2, k, v1, v2, w, g _ H (Same.refl H) (.inl (.bl k))⟩)⟩
  | .and x y p => ⟨(fun {d} w => by
    simp only [hev, Option.bind_eq_some_iff] at w
    obtain ⟨d1, w1, w⟩ := w
    split at w
    · simp only [Option.bind_eq_some_iff] at w
      obtain ⟨d2, w2, w⟩ := w
      split at w
      · rename_i k
        cases w
        refine PE.imp (pe_and ((hET C x).1 w1) (pe_one ((hET C y).1 w2))) fun σ H Q g => ⟨g.1, fun v H1 s1 v1 => ?_⟩
        cases v1.bool
        exact ⟨true, rfl, iteT ⟨g.1.mono s1, fun v H2 s2 v2 => g.2 v H2 (Same.trans s1 s2) v2⟩⟩
      · cases w
    · cases w
      refine PE.imp (pe_and ((hET C x).1 w1) (pe_off (e := .BoolOp .And [pyH y] p))) fun σ H Q g => ⟨g.1, fun v H1 s1 v1 => ?_⟩
      cases v1.bool
      exact ⟨false, rfl, iteF (g.2 _ H1 s1 (.inl (.bl false)))⟩
    · cases w), (fun {k} w => by
    simp only [hev, Option.bind_eq_some_iff] at w
    obtain ⟨d1, w1, w⟩ := w
    split at w
    · simp only [Option.bind_eq_some_iff] at w
      obtain ⟨d2, w2, w⟩ := w
      split at w
      · rename_i k1
        cases w
        refine PT.imp (pw_and ((hET C x).2 w1) (pw_and1 ((hET C y).2 w2))).pt fun σ H Q g => ⟨g.1, fun H1 s1 => ?_⟩
        exact iteT ⟨g.1.mono s1, fun H2 s2 => g.2 H2 (Same.trans s1 s2)⟩
      · cases w
    · cases w
      refine PT.imp (pw_and ((hET C x).2 w1) (pw_off (e := .BoolOp .And [pyH y] p))).pt fun σ H Q g => ⟨g.1, fun H1 s1 => ?_⟩
      exact iteF (g.2 H1 s1)
    · cases w)⟩
  | .not x p => ⟨(fun {d} w => by
    simp only [hev, Option.bind_eq_some_iff] at w
    obtain ⟨d1, w1, w⟩ := w
    split at w
    · rename_i k
      cases w
      refine PE.imp (pe_not ((hET C x).1 w1)) fun σ H Q g => ⟨g.1, fun v H1 s1 v1 => ?_⟩
      cases v1.bool
      exact ⟨k, rfl, g.2 _ H1 s1 (.inl (.bl _))⟩
    · cases w), (fun {k} w => by
    simp only [hev, Option.bind_eq_some_iff] at w
    obtain ⟨d1, w1, w⟩ := w
    split at w
    · rename_i k1
      cases w
      exact PT.imp (pt_not ((hET C x).2 w1)) fun σ H Q g => ⟨g.1, fun H1 s1 => g.2 H1 s1⟩
    · cases w)⟩
  | .ife c x y p => ⟨(fun {d} w => by
    simp only [hev, Option.bind_eq_some_iff] at w
    obtain ⟨d1, w1, w⟩ := w
    split at w
    · refine PE.imp (pe_ifExp ((hET C c).2 w1) ((hET C x).1 w) (pe_off (e := pyH y))) fun σ H Q g => ⟨g.1, fun H1 s1 => ?_⟩
      exact iteT ⟨g.1.mono s1, fun v H2 s2 v2 => g.2 v H2 (Same.trans s1 s2) v2⟩
    · refine PE.imp (pe_ifExp ((hET C c).2 w1) (pe_off (e := pyH x)) ((hET C y).1 w)) fun σ H Q g => ⟨g.1, fun H1 s1 => ?_⟩
      exact iteF ⟨g.1.mono s1, fun v H2 s2 v2 => g.2 v H2 (Same.trans s1 s2) v2⟩
    · cases w), (fun {k} w => by
    simp only [hev, Option.bind_eq_some_iff] at w
    obtain ⟨d1, w1, w⟩ := w
    split at w
    · refine ⟨fun pins s σ H Q I g => isTrue_IfExp (thn (((hET C c).2 w1).run pins s σ H (fun b H1 => b = true ∧ RH X.K h a dd σ H1 ∧ ∀ H2, Same H1 H2 → Q k H2) I ⟨g.1, fun H1 s1 => ⟨rfl, g.1.mono s1, fun H2 s2 => g.2 H2 (Same.trans s1 s2)⟩⟩) fun b s1 z => ?_)⟩
      obtain ⟨H1, I1, rfl, z⟩ := z
      exact ((hET C x).2 w).run pins s1 σ H1 Q I1 z
    · refine ⟨fun pins s σ H Q I g => isTrue_IfExp (thn (((hET C c).2 w1).run pins s σ H (fun b H1 => b = false ∧ RH X.K h a dd σ H1 ∧ ∀ H2, Same H1 H2 → Q k H2) I ⟨g.1, fun H1 s1 => ⟨rfl, g.1.mono s1, fun H2 s2 => g.2 H2 (Same.trans s1 s2)⟩⟩) fun b s1 z => ?_)⟩
      obtain ⟨H1, I1, rfl, z⟩ := z
      exact ((hET C y).2 w).run pins s1 σ H1 Q I1 z
    · cases w)⟩
theorem hEs (C : HCx h a dd X) : ∀ (es : HXs) {ds : List Dt}, hevs h es = some ds → ds.all atomD = true → PA X (pyHs es) (hA X.K h a dd ds)
  | .nil, ds, w, _ => by cases w; exact PA.imp pa_nil fun σ H Q g => g.2 [] H (Same.refl H) .nil
  | .cons e r, ds, w, at_ => by
    simp only [hevs, Option.bind_eq_some_iff, Option.map_eq_some_iff] at w
    obtain ⟨d, w1, ds', w2, rfl⟩ := w
    simp only [List.all_cons, Bool.and_eq_true] at at_
    refine PA.imp (pa_cons ((hET C e).1 w1) (hEs C r w2 at_.2) (star_pyH e)) fun σ H Q g => ⟨g.1, fun v H1 s1 v1 => ⟨g.1.mono s1, fun vs H2 s2 sh => ?_⟩⟩
    exact g.2 _ H2 (Same.trans s1 s2) (.cons ((v1.mono s2).atom at_.1) sh)
end
/-! ### statements -/
/-- the reading of a block: what it gives -/
def hEnd (K : PySem.W.Frag) (h : HC) (a : Addr) (dd : Option Addr) (D : Ends) (H : Hp) : Option Dt × List (Option Dt) → Prop
  | (some d, _) => ∀ v H', Same H H' → Vw K H' v d → D.rt v H'
  | (none, en) => ∀ σ' H', Same H H' → RH K (h.up en) a dd σ' H' → D.nx σ' H'
theorem hEnd.later {D : Ends} {H1 : Hp} {r : Option Dt × List (Option Dt)} (e : hEnd K h a dd D H r) (s : Same H H1) : hEnd K h a dd D H1 r := by
  obtain ⟨o, en⟩ := r
  cases o with
  | some d => exact fun v H' s1 => e v H' (Same.trans s s1)
  | none => exact fun σ' H' s1 => e σ' H' (Same.trans s s1)
def hS (K : PySem.W.Frag) (h : HC) (a : Addr) (dd : Option Addr) (r : Option Dt × List (Option Dt)) : TS := fun D σ H => RH K h a dd σ H ∧ hEnd K h a dd D H r
theorem RH.set {σ : L2.St} {i : Nat} (r : RH K h a dd σ H) (hi : i < h.N.length) (hie : h.ex.map (·.2) ≠ some i) (hl : i < h.en.length) (w : Vw K H v d) : RH K (h.up (h.en.set i (some d))) a dd (σ.set i (some v)) H := by
  rw [← r.len] at hi
  refine ⟨fun j e q => ?_, fun x j q => ?_, r.fd, by rw [List.length_set]; exact r.len⟩
  · have q' : (h.en.set i (some d)).getD j none = some e := q
    rw [List.getD_eq_getElem?_getD, List.getElem?_set] at q'
    by_cases hj : i = j
    · subst hj
      simp only [if_true, hl] at q'
      cases q'
      exact ⟨v, by rw [List.getElem?_set_self hi], w⟩
    · simp only [hj, if_false] at q'
      obtain ⟨u, h1, h2⟩ := r.sl j e (by rw [List.getD_eq_getElem?_getD]; exact q')
      exact ⟨u, by rw [List.getElem?_set_ne hj]; exact h1, h2⟩
  · have q' : h.ex = some (x, j) := q
    have hj : i ≠ j := fun z => hie (by rw [q', z]; rfl)
    rw [List.getElem?_set_ne hj]
    exact r.ex x j q'
theorem pss_off {X : Cx} {ss : List Stmt} : PSs X ss (fun _ _ _ => False) := ⟨fun _ _ _ _ _ _ q => q.elim⟩
mutual
theorem hS1 : ∀ (st : HS) {h : HC} {r : Option Dt × List (Option Dt)}, HCx h a dd X → hrun h st = some r → PS X (pyHS st) (hS X.K h a dd r)
  | .set x i e q p, h, r, C, w => by
    simp only [hrun] at w
    split at w
    · rename_i z
      simp only [Option.map_eq_some_iff] at w
      obtain ⟨d, w1, rfl⟩ := w
      obtain ⟨z1, z2, z3, z4⟩ := z
      have kx : X.env.kindOf x = some .local := by show X.env.scope.names.lookup x = _; rw [C.hsc]; exact z2
      refine PS.imp (ps_set (by rw [C.hN]; exact C.hnd) (by rw [C.hN]; exact z1) (.inl (by rw [C.hsc]; exact z2)) ((hET C e).1 w1) (swaps_pyH e) (.inr kx)) fun D σ H g => ⟨g.1, fun v H1 s1 v1 => ?_⟩
      exact g.2 _ H1 s1 ((g.1.mono s1).set (List.getElem?_eq_some_iff.mp z1).1 z3 z4 v1)
    · cases w
  | .ife c x y p, h, r, C, w => by
    simp only [hrun, Option.bind_eq_some_iff] at w
    obtain ⟨d1, w1, w⟩ := w
    split at w
    · refine PS.imp (ps_if ((hET C c).2 w1) (hSs x C w) (pss_off (ss := pyHSs y))) fun D σ H g => ⟨g.1, fun H1 s1 => iteT ⟨g.1.mono s1, g.2.later s1⟩⟩
    · refine PS.imp (ps_if ((hET C c).2 w1) (pss_off (ss := pyHSs x)) (hSs y C w)) fun D σ H g => ⟨g.1, fun H1 s1 => iteF ⟨g.1.mono s1, g.2.later s1⟩⟩
    · cases w
  | .ret e p, h, r, C, w => by
    simp only [hrun, Option.map_eq_some_iff] at w
    obtain ⟨d, w1, rfl⟩ := w
    exact PS.imp (ps_ret ((hET C e).1 w1)) fun D σ H g => ⟨g.1, fun v H1 s1 v1 => g.2 v H1 s1 v1⟩
theorem hSs : ∀ (ss : HSs) {h : HC} {r : Option Dt × List (Option Dt)}, HCx h a dd X → hruns h ss = some r → PSs X (pyHSs ss) (hS X.K h a dd r)
  | .nil, h, r, C, w => by
    cases w
    exact PSs.imp pss_nil fun D σ H g => g.2 σ H (Same.refl H) g.1
  | .cons st ss, h, r, C, w => by
    simp only [hruns, Option.bind_eq_some_iff] at w
    obtain ⟨⟨o, en⟩, w1, w⟩ := w
    cases o with
    | some d =>
      cases w
      refine PSs.imp (pss_cons (hS1 st C w1) (pss_off (ss := pyHSs ss))) fun D σ H g => ?_
      exact ⟨g.1, g.2⟩
    | none =>
      refine PSs.imp (pss_cons (hS1 st C w1) (hSs ss (C.up en) w)) fun D σ H g => ⟨g.1, fun σ' H1 s1 r1 => ⟨r1, hEnd.later (h := h.up en) ?_ s1⟩⟩
      have g2 := g.2
      obtain ⟨o, en2⟩ := r
      cases o <;> exact g2
end
end
end VL


set_option Elab.async false
set_option linter.all false
set_option maxRecDepth 100000
set_option maxHeartbeats 1000000
/-! VL31: several clauses except c as n; the word of a thunk for a def of that shape. -/
namespace VL
open PySem PySem.Spec PyProof.Rows L2 LamX
/-- what clauses wish of an error of the body: the slot of the name holds it in the suite, nothing behind it -/
def wNm (K : PySem.W.Frag) (Wout : WX) (D : Ends) : List (Value × Nat × (Addr → Value → Option Addr → TS)) → WX
  | [] => Wout
  | (c, i, ts) :: l => fun cls d σ H => ∃ b, PySem.W.exmOne K cls c = some b ∧
      (b = true → ∀ a, H a = none → ts a cls d { nx := fun σ' H' => D.nx (σ'.set i none) H', rt := D.rt, bk := fun σ' H' => D.bk (σ'.set i none) H', ct := fun σ' H' => D.ct (σ'.set i none) H' } (σ.set i (some (.ref a))) H) ∧ (b = false → wNm K Wout D l cls d σ H)
inductive NmOk (X : Cx) : List ExceptHandler → List (Value × Nat × (Addr → Value → Option Addr → TS)) → Prop
  | nil : NmOk X [] []
  | cons {x n : Str} {c : Value} {i : Nat} {ts : Addr → Value → Option Addr → TS} {st : Stmt} {suite : List Stmt} {np ep : Pos} {rest : List ExceptHandler} {l : List (Value × Nat × (Addr → Value → Option Addr → TS))} (hc : Names X x c) (hi : X.N[i]? = some n) (hn : X.env.kindOf n = some .local)
      (hsu : ∀ (a : Addr) (oe : Obj) (cls : Value) (d : Option Addr) (pn : List (Addr × Obj)), Zc cls d oe → (∃ vs, oe.data = .fields vs) → PSs (X.suite a ((a, oe) :: pn)) (st :: suite) (ts a cls d)) (r : NmOk X rest l) :
      NmOk X (.ExceptHandler (some (.Name x np)) (some n) (st :: suite) ep :: rest) ((c, i, ts) :: l)
section
variable {X : Cx} {body : List Stmt} {k0 : ExceptHandler} {ks : List ExceptHandler} {l : List (Value × Nat × (Addr → Value → Option Addr → TS))} {pos : Pos} {tb : WX → TS} {Wout : WX}
theorem ps_try_nm (hstk : X.stack = X.env :: X.outer) (hfr0 : X.env.frame = some X.env.locals) (hnd : X.N.Nodup) (tk : Takes X Wout)
    (hb : ∀ (W : WX) (pn : List (Addr × Obj)) (xe : Value → Shared → Prop), Takes (X.tr pn xe) W → PassesOwn (model X.prog X.w) X.A X.env xe → PSs (X.tr pn xe) body (tb W))
    (hh : NmOk X (k0 :: ks) l) : PS X (.Try body (k0 :: ks) [] [] pos) (fun D σ H => tb (wNm X.K Wout D l) D σ H) := by
  refine ⟨fun pins s σ H D I w0 => ?_⟩
  have okX := I.ok
  have frames : X.A.frames = some (X.env :: X.outer) := by rw [okX.frames, hstk]
  refine wpAny_Try_except ?_
  refine wpAny_mono ((hb (wNm X.K Wout D l) (X.pn ++ pins) (fun e s₁ => wpAny (model X.prog X.w) X.A (noteFrame e X.env) (fun _ s₂ => wpAny (model X.prog X.w) X.A (setFlight e none) (fun _ s₃ =>
    wpAny (model X.prog X.w) X.A (handleBy e X.env (k0 :: ks)) (SP X pins D) X.xe s₃) X.xe s₂) X.xe s₁) (fun u sC fly => ?_) PassesOwn.looking).run [] s σ H D (I.toTry _) w0) (fun fl s1 done => ?_) (fun e s1 he => he)
  · obtain ⟨a, B, sI, pinsC, σC, HC, cls, d, rfl, JC, nb, up, sky, na, osE, agr, w⟩ := fly
    have J : Inv X pins σC HC sI := JC.ofTry okX
    have skyX : Sky B (X.env :: X.outer) a (Zc cls d) X.env.locals sC.heap := by rw [← hstk]; exact sky
    show wpAny (model X.prog X.w) X.A (noteFrame (.ref a) X.env) _ _ _
    refine Sky.land Zc.steady frames hfr0 skyX fun hL flL upL => ?_
    have JL : Inv X pins σC HC { sC with heap := hL } := J.landed nb flL.1 (up.trans upL) osE agr
    obtain ⟨oL, vL, heL, zcL, dL⟩ := flL.there
    have away : ∀ {h : Heap} {o : Obj} {vs : Array Value}, h.FunFrames B (X.env :: X.outer) → h.get? a = some o → o.data = .fields vs → a ∉ frs (X.env :: X.outer) := fun {h o vs} ff e q hm => by
      obtain ⟨_, o2, e2, nf⟩ := ff.mem hm
      rw [e] at e2
      cases e2
      exact nf _ q
    have aOff := away flL.2.2.1 heL dL
    have aLoc : a ≠ X.env.locals := fun z => aOff (List.mem_filterMap.mpr ⟨X.env, List.mem_cons_self, by rw [hfr0, z]⟩)
    have aFs : a ∉ X.fs := fun hm => by
      obtain ⟨e, he, q⟩ := List.mem_filterMap.mp hm
      exact aOff (List.mem_filterMap.mpr ⟨e, List.mem_cons_of_mem _ he, q⟩)
    have SL := JL.suite heL dL na aLoc aFs
    have walk : ∀ {ks' : List ExceptHandler} {l' : List (Value × Nat × (Addr → Value → Option Addr → TS))}, NmOk X ks' l' → wNm X.K Wout D l' cls d σC HC →
        wpAny (model X.prog X.w) X.A (handleBy (.ref a) X.env ks') (SP X pins D) X.xe { sC with heap := hL } := by
      intro ks' l' hk
      induction hk with
      | nil =>
        intro w
        refine wpAny_handleBy_nil ?_
        obtain ⟨p1, p2, p3, oe, vs, T, oT, ts', he, hz, hd, f1, hr⟩ := id flL
        unfold PySem.passOn
        refine wpAny_bind (wpAny_field he hd f1 ?_)
        rw [if_neg (show ¬ ((Value.ref T == Value.none) = true) from by simp)]
        have out : wpAny (model X.prog X.w) X.A (setFlight (.ref a) X.env.frame) (fun _ s4 => wpAny (model X.prog X.w) X.A (throw (.ref a) : Sem Flow) (SP X pins D) X.xe s4) X.xe { sC with heap := hL } := by
          rw [hfr0]
          refine HandSPX.setFlight_upZ flL fun h4 hh4 up4 => wpAny_throw (tk _ _ ?_)
          exact ⟨a, B, sI, pins, σC, HC, cls, d, rfl, J, nb, (up.trans upL).trans up4, .inr (.inr (by rw [hstk]; exact hh4)), na, osE, agr, w⟩
        first
          | exact wpAny_bind (wpAny_pure (wpAny_bind out))
          | exact wpAny_bind out
      | @cons x n c i ts st suite np ep rest lr hc hi hn hsu r ih =>
        intro w
        obtain ⟨b, hb1, yes, no⟩ := w
        refine wpAny_handleBy_cons (codeAny_handlers_test ?_) (by intro q; cases q)
        have looksT : PySem.W.Looks (model X.prog X.w) hL (typeOf (.ref a)) cls := fun A Q E s k q => wpAny_typeOf_ref (k _ _ heL) (by rw [zcL.1]; exact q)
        have looksM := PySem.W.exm_one (M := model X.prog X.w) (JL.kIn) looksT hb1
        have named : ∀ {Q : Value → Shared → Prop} {E : Value → Shared → Prop}, Q c { sC with heap := hL } → wpAny (model X.prog X.w) (X.A.mark (some (.ref a))) (eval (.Name x np) X.env) Q E { sC with heap := hL } := fun {Q E} q => by
          obtain ⟨hg, hdbg, hm | ⟨hm, hv, hnn⟩⟩ := hc
          · exact ld_glob (X := X.suite a ((a, oL) :: (X.pn ++ pins))) SL hg hm q hdbg
          · exact ld_blt (X := X.suite a ((a, oL) :: (X.pn ++ pins))) SL hg hm hv q hnn hdbg
        refine named (looksM.here ?_)
        cases b with
        | true =>
          refine codeAny_handlers_suite_as ?_
          refine HandSPX.lands_againZ flL fun hM flM upM => ?_
          have JM : Inv X pins σC HC { sC with heap := hM } := J.landed nb flM.1 ((up.trans upL).trans upM) osE agr
          obtain ⟨oM, vM, heM, zcM, dM⟩ := flM.there
          have SM := JM.suite heM dM na aLoc aFs
          refine store_ok (X := X.suite a ((a, oM) :: (X.pn ++ pins))) (v := .ref a) SM hnd hi (.inl hn) rfl (fun s5 S5 => ?_) (.inr hn)
          refine wpAny_mono ((hsu a oM cls d (X.pn ++ pins) zcM ⟨_, dM⟩).run [] s5 _ HC _ S5 (yes rfl a na)) (fun fl s6 q6 => ?_) (fun _ _ z => False.elim z)
          have gone : ∀ {σ6 : L2.St} {H6 : Hp} {Q : Shared → Prop}, Inv (X.suite a ((a, oM) :: (X.pn ++ pins))) [] σ6 H6 s6 → (∀ s7, Inv X pins (σ6.set i none) H6 s7 → Q s7) →
              wpAny (model X.prog X.w) X.A (do bindName X.env n .none; unbindBehindTheSuite X.env n ep) (fun _ s7 => Q s7) X.xe s6 := fun {σ6 H6 Q} S6 hq => gone_ok (S6.unsuite okX) hnd hi hn hq
          cases fl with
          | next =>
            obtain ⟨σ6, H6, S6, q6⟩ := q6
            exact gone S6 fun s7 J7 => ⟨_, _, J7, q6⟩
          | brk =>
            obtain ⟨σ6, H6, S6, q6⟩ := q6
            exact gone S6 fun s7 J7 => ⟨_, _, J7, q6⟩
          | cont =>
            obtain ⟨σ6, H6, S6, q6⟩ := q6
            exact gone S6 fun s7 J7 => ⟨_, _, J7, q6⟩
          | ret u =>
            obtain ⟨v6, σ6, H6, S6, r6, q6⟩ := q6
            exact gone S6 fun s7 J7 => ⟨_, _, _, J7, r6, q6⟩
        | false =>
          show wpAny _ X.A (handleBy (.ref a) X.env rest) _ _ _
          exact ih (no rfl)
    exact walk hh w
  · cases fl with
    | next =>
      obtain ⟨σC, HC, JC, q⟩ := done
      exact wpAny_execs_nil ⟨σC, HC, JC.ofTry okX, q⟩
    | brk =>
      obtain ⟨σC, HC, JC, q⟩ := done
      exact ⟨σC, HC, JC.ofTry okX, q⟩
    | cont =>
      obtain ⟨σC, HC, JC, q⟩ := done
      exact ⟨σC, HC, JC.ofTry okX, q⟩
    | ret u =>
      obtain ⟨v, σC, HC, JC, r, q⟩ := done
      exact ⟨v, σC, HC, JC.ofTry okX, r, q⟩
end
end VL


set_option Elab.async false
set_option linter.all false
set_option maxRecDepth 100000
set_option maxHeartbeats 1000000
/-! VL32: a def that tells a word of a thunk: pre; try: a() except c as n: suite ..; post. -/
namespace VL
open PySem PySem.Spec PyProof.Rows L2 LamX
structure Hd where
  c : Str
  n : Str
  i : Nat
  st : HS
  ss : HSs
  np : Pos
  ep : Pos
structure Wd where
  N : List Str
  a : Str
  sc : Scope
  pre : HSs
  hs : List Hd
  post : HSs
  p1 : Pos
  p2 : Pos
  p3 : Pos
  p4 : Pos
def Hd.py (k : Hd) : ExceptHandler := .ExceptHandler (some (.Name k.c k.np)) (some k.n) (pyHS k.st :: pyHSs k.ss) k.ep
def Wd.py (w : Wd) : List Stmt := pyHSs w.pre ++ (.Try [.Expr (.Call (.Name w.a w.p1) [] [] w.p2) w.p3] (w.hs.map Hd.py) [] [] w.p4 :: pyHSs w.post)
def hcP (w : Wd) (en : List (Option Dt)) : HC := ⟨w.N, w.sc, en, none, "", [], []⟩
def fldsOf (FN : Str → List Str) (y : Str) (ys : List Dt) : List (Str × Dt) := (FN y).zip ys
def allN (w : Wd) : List (Option Dt) := w.N.map fun _ => none
def hcE (w : Wd) (FN : Str → List Str) (ET : List Str) (k : Hd) (y : Str) (ys : List Dt) : HC := ⟨w.N, w.sc, allN w, some (k.n, k.i), y, fldsOf FN y ys, "ValueError" :: ET⟩
def shD : Dt → Bool
  | .list _ => false
  | _ => true
def cstH : HX → Bool
  | .str .. => true
  | .int .. => true
  | .bl .. => true
  | .non _ => true
  | _ => false
def cstHs : HSs → Bool
  | .nil => true
  | .cons (.set _ i e _ _) r => cstH e && i != 0 && cstHs r
  | _ => false
def shO (d : Dt) : Option Dt := if shD d = true then some d else none
def wpost (w : Wd) (en : List (Option Dt)) : Option Dt := (hruns (hcP w en) w.post).bind fun q => shO (q.1.getD .none)
def whs (w : Wd) (FN : Str → List Str) (ET : List Str) (y : Str) (ys : List Dt) : List Hd → Option Dt
  | [] => none
  | k :: l => if isC y k.c = true then (hruns (hcE w FN ET k y ys) (.cons k.st k.ss)).bind fun q => match q.1 with
      | some d => shO d
      | none => wpost w (q.2.set k.i none)
    else whs w FN ET y ys l
def wpre (w : Wd) : Option (List (Option Dt)) := (hruns (hcP w (allN w)) w.pre).bind fun q => match q.1 with
  | none => if (q.2.all fun o => match o with | some d => atomD d | none => true) = true then some q.2 else none
  | some _ => none
def wval (w : Wd) : Dt → Option Dt := fun _ => (wpre w).bind (wpost w)
def wexc (w : Wd) (FN : Str → List Str) (ET : List Str) (y : Str) (ys : List Dt) : Option Dt := if ET.contains y = true then whs w FN ET y ys w.hs else none
/-- what is written of the classes -/
structure EF (K : PySem.W.Frag) (mg : Str → Option Value) (ET : List Str) (CA : Str → Addr) (FN : Str → List Str) : Prop where
  gm : ∀ c ∈ ET, mg c = some (.ref (CA c))
  ve : mg "ValueError" = none
  ex : ∀ y ∈ ET, ∀ c ∈ ET, PySem.W.exmOne K (.ref (CA y)) (.ref (CA c)) = some (isC y c)
  kt : ∀ y ∈ ET, ∀ c ∈ ET, PySem.W.kitOne K (.ref (CA y)) (.ref (CA c)) = some (isC y c)
  kv : ∀ y ∈ ET, PySem.W.kitOne K (.ref (CA y)) (.type "ValueError") = some true
  cc : ∀ y ∈ ET, ExcC K (CA y)
  xf : ∀ y ∈ ET, ∀ f ∈ FN y, XfC K (CA y) ∧ PySem.W.findIn K (.ref (CA y)) f = some none
  nd : ∀ c ∈ ET, (c == ("__debug__" : Str)) = false
/-- an error told as data -/
def excR (K : PySem.W.Frag) (ET : List Str) (CA : Str → Addr) (FN : Str → List Str) : Str → List Dt → Value → Option Addr → Hp → Prop := fun y ys cls dd H =>
  y ∈ ET ∧ cls = .ref (CA y) ∧ (FN y = [] → dd = none) ∧ (FN y ≠ [] → ∃ da fs, dd = some da ∧ H da = some (.xd fs) ∧ fs.map (·.1) = FN y ∧ ShA K H (fs.map (·.2)) ys)
theorem zip_lookup {K : PySem.W.Frag} {H : Hp} {f : Str} {d : Dt} : ∀ {fs : List (Str × V)} {ys : List Dt}, ShA K H (fs.map (·.2)) ys → ((fs.map (·.1)).zip ys).lookup f = some d → ∃ v, fs.lookup f = some v ∧ Sh K H v d
  | [], ys, _, e => by simp at e
  | (g, u) :: fs, [], s, e => by simp at e
  | (g, u) :: fs, y :: ys, s, e => by
    cases s with
    | cons s1 s2 =>
      simp only [List.map_cons, List.zip_cons_cons, List.lookup_cons] at e ⊢
      cases q : f == g with
      | true => rw [q] at e; cases e; exact ⟨u, rfl, s1⟩
      | false => rw [q] at e; exact zip_lookup s2 e
section
variable {X : Cx} {ET : List Str} {CA : Str → Addr} {FN : Str → List Str} {w : Wd} {h : HC} {a : Addr} {dd : Option Addr} {K : PySem.W.Frag}
/-- the slots told by constants: the heap stays -/
theorem pre_ok {rest : List Stmt} {t : TS} : ∀ (ss : HSs) {h : HC} {en : List (Option Dt)}, HCx h a dd X → cstHs ss = true → hruns h ss = some (none, en) → PSs X rest t → ∀ {f : Addr}, PSs X (pyHSs ss ++ rest) (fun D σ H => RH X.K h a dd σ H ∧ σ[0]? = some (some (.ref f)) ∧ ∀ σ', RH X.K (h.up en) a dd σ' H → σ'[0]? = some (some (.ref f)) → t D σ' H)
  | .nil, h, en, C, c, r, p, f => by
    cases r
    exact PSs.imp p fun D σ H g => g.2.2 σ g.1 g.2.1
  | .cons (.set x i e q p') r', h, en, C, c, r, p, f => by
    simp only [hruns, Option.bind_eq_some_iff] at r
    obtain ⟨⟨o, en1⟩, r1, r⟩ := r
    simp only [cstHs, Bool.and_eq_true, bne_iff_ne] at c
    simp only [hrun] at r1
    split at r1
    · rename_i z
      simp only [Option.map_eq_some_iff] at r1
      obtain ⟨d, w1, e1⟩ := r1
      cases e1
      obtain ⟨z1, z2, z3, z4⟩ := z
      have kx : X.env.kindOf x = some .local := by show X.env.scope.names.lookup x = _; rw [C.hsc]; exact z2
      have cv : ∃ v : V, PE X (pyH e) (tC v) ∧ ∀ K H, Vw K H v d := by
        have c1 := c.1.1
        cases e <;> simp only [cstH, Bool.false_eq_true] at c1
        · cases w1; exact ⟨_, pe_str, fun _ _ => .inl (.str _)⟩
        · cases w1; exact ⟨_, pe_int, fun _ _ => .inl (.int _)⟩
        · cases w1; exact ⟨_, pe_bl, fun _ _ => .inl (.bl _)⟩
        · cases w1; exact ⟨_, pe_non, fun _ _ => .inl .non⟩
      obtain ⟨v, pv, vw⟩ := cv
      refine PSs.imp (pss_cons (ps_set (by rw [C.hN]; exact C.hnd) (by rw [C.hN]; exact z1) (.inl (by rw [C.hsc]; exact z2)) pv (swaps_pyH e) (.inr kx)) (pre_ok r' (C.up _) c.2 r p (f := f))) fun D σ H g => ?_
      refine ⟨RH.set g.1 (List.getElem?_eq_some_iff.mp z1).1 z3 z4 (vw _ H), ?_, fun σ' r2 z0 => g.2.2 σ' r2 z0⟩
      rw [List.getElem?_set_ne c.1.2]
      exact g.2.1
    · cases r1
  | .cons (.ife ..) _, h, en, C, c, r, p, f => by simp [cstHs] at c
  | .cons (.ret ..) _, h, en, C, c, r, p, f => by simp [cstHs] at c
theorem hcx_plain {en : List (Option Dt)} (hN : X.N = w.N) (hnd : w.N.Nodup) (hsc : X.env.scope = w.sc) (un : X.A.units + 66 < cLine) : HCx (hcP w en) a dd X :=
  ⟨hN, hnd, hsc, un, (fun _ _ _ _ _ _ _ e => by cases e), (fun _ _ _ _ _ _ e => by cases e)⟩
theorem hcx_exc {k : Hd} {y : Str} {ys : List Dt} {oe : Obj} {pn : List (Addr × Obj)} (E : EF X.K X.mg ET CA FN) (hN : X.N = w.N) (hnd : w.N.Nodup) (hsc : X.env.scope = w.sc) (un : X.A.units + 66 < cLine) (hy : y ∈ ET) (hf0 : FN y = [] → dd = none) (hyl : (fldsOf FN y ys).isEmpty = (FN y).isEmpty)
    (hz : Zc (.ref (CA y)) dd oe) (hf : ∃ vs, oe.data = .fields vs) (his : X.mg "isinstance" = none) : HCx (hcE w FN ET k y ys) a dd (X.suite a ((a, oe) :: pn)) := by
  refine ⟨hN, hnd, hsc, un, fun x i c q q1 q2 p e hc hfs hs hg1 hg2 => ?_, fun x i f q p d e hs hl => ?_⟩
  · have hdd : dd = none := hf0 (by
      have z : (fldsOf FN y ys).isEmpty = true := by
        have z2 : (hcE w FN ET k y ys).fs = [] := hfs
        simp only [hcE] at z2
        rw [z2]; rfl
      rw [hyl] at z
      exact List.isEmpty_iff.mp z)
    subst hdd
    have gi : Gl (X.suite a ((a, oe) :: pn)) (Str.ofString "isinstance") := by
      show X.env.scope.names.lookup _ = _
      rw [hsc]; simpa [glB, hcE] using hg1
    have gc : Gl (X.suite a ((a, oe) :: pn)) c := by
      show X.env.scope.names.lookup _ = _
      rw [hsc]; simpa [glB, hcE] using hg2
    obtain ⟨s1, s2, s3, s4⟩ := slot_of hs
    have pv : PE (X.suite a ((a, oe) :: pn)) (.Name x q1) (tVar i) := pe_var (by show X.N[i]? = _; rw [hN]; exact s1) (by show Vis X.env.scope x; rw [hsc]; exact vis_of s2) s3 s4
    have hc' : c = "ValueError" ∨ c ∈ ET := by simpa [hcE] using hc
    rcases hc' with rfl | hcE'
    · have pc : PE (X.suite a ((a, oe) :: pn)) (.Name "ValueError" q2) (tC (.ty "ValueError")) := pe_bltn gc E.ve (by decide +kernel) rfl
      refine PE.imp (pe_callB (call_isE (E.cc y hy) hz hf) gi his (by decide +kernel) (pa_cons pv (pa_cons pc pa_nil)) (by decide) (by decide) rfl rfl) fun σ H Q g => ?_
      refine ⟨_, g.1, .ty "ValueError", .type "ValueError", isC y "ValueError", rfl, fun u r => r, ?_, g.2⟩
      rw [E.kv y hy]
      simp [isC]
    · have pc : PE (X.suite a ((a, oe) :: pn)) (.Name c q2) (tC (.ref (CA c))) := pe_glob gc (E.gm c hcE') rfl (E.nd c hcE')
      refine PE.imp (pe_callB (call_isE (E.cc y hy) hz hf) gi his (by decide +kernel) (pa_cons pv (pa_cons pc pa_nil)) (by decide) (by decide) rfl rfl) fun σ H Q g => ?_
      exact ⟨_, g.1, .ref (CA c), .ref (CA c), isC y c, rfl, fun u r => r, E.kt y hy c hcE', g.2⟩
  · have hff : f ∈ FN y := by
      have hl' : (fldsOf FN y ys).lookup f = some d := hl
      exact (List.of_mem_zip (PySem.mem_of_lookup hl')).1
    obtain ⟨T, hno⟩ := E.xf y hy f hff
    obtain ⟨s1, s2, s3, s4⟩ := slot_of hs
    have pv : PE (X.suite a ((a, oe) :: pn)) (.Name x q) (tVar i) := pe_var (by show X.N[i]? = _; rw [hN]; exact s1) (by show Vis X.env.scope x; rw [hsc]; exact vis_of s2) s3 s4
    exact PE.imp (pe_xf T hno hz hf pv rfl) fun σ H Q g => ⟨_, g.1, rfl, rfl, g.2⟩

theorem sh_any {H H' : Hp} {v : V} {d : Dt} (a : atomD d = true) (s : Sh K H v d) : Sh K H' v d := by
  cases s with
  | non => exact .non
  | bl b => exact .bl b
  | int i => exact .int i
  | str x => exact .str x
  | lst _ _ => simp [atomD] at a
  | tup _ _ => simp [atomD] at a
  | dct _ _ => simp [atomD] at a
  | dcT _ _ => simp [atomD] at a
theorem RH.any {σ : L2.St} {H H' : Hp} {en : List (Option Dt)} (r : RH K (hcP w en) a dd σ H) (at_ : (en.all fun o => match o with | some d => atomD d | none => true) = true) : RH K (hcP w en) a dd σ H' := by
  refine ⟨fun i d e => ?_, (fun _ _ e => by cases e), (fun f d e => by cases e), r.len⟩
  obtain ⟨v, h1, h2⟩ := r.sl i d e
  have e' : en.getD i none = some d := e
  have ad : atomD d = true := by
    rw [List.getD_eq_getElem?_getD] at e'
    cases z : en[i]? with
    | none => rw [z] at e'; cases e'
    | some o =>
      rw [z] at e'
      have z2 := List.all_eq_true.mp at_ o (List.mem_of_getElem? z)
      have e2 : o = some d := e'
      subst e2
      exact z2
  exact ⟨v, h1, .inl (sh_any ad (h2.atom ad))⟩
theorem shO_of {d r : Dt} (h : shO d = some r) : r = d ∧ shD d = true := by
  unfold shO at h
  split at h
  · rename_i z
    cases h; exact ⟨rfl, z⟩
  · cases h
theorem Vw.sh {H : Hp} {v : V} {d : Dt} (w : Vw K H v d) (s : shD d = true) : Sh K H v d := by
  rcases w with w | ⟨_, _, _, _, e, _⟩
  · exact w
  · subst e; simp [shD] at s
/-- what stands behind the try -/
def tPost (K : PySem.W.Frag) (w : Wd) : TS := fun D σ H => ∃ en r a dd, hruns (hcP w en) w.post = some r ∧ hS K (hcP w en) a dd r D σ H
theorem post_ok (hN : X.N = w.N) (hnd : w.N.Nodup) (hsc : X.env.scope = w.sc) (un : X.A.units + 66 < cLine) : PSs X (pyHSs w.post) (tPost X.K w) := ⟨fun pins s σ H D I g => by
  obtain ⟨en, r, a, dd, h1, h2⟩ := g
  exact (hSs w.post (hcx_plain (a := a) (dd := dd) hN hnd hsc un) h1).run pins s σ H D I h2⟩
theorem post_end {en : List (Option Dt)} {r0 : Dt} {σ : L2.St} {H : Hp} {Q : VK} (h : wpost w en = some r0) (hq : ∀ v H', Same H H' → Sh K H' v r0 → Q v H') (r : RH K (hcP w en) a dd σ H) : tPost K w { nx := fun _ H' => Q .non H', rt := Q } σ H := by
  unfold wpost at h
  simp only [Option.bind_eq_some_iff] at h
  obtain ⟨⟨o, en2⟩, h1, h2⟩ := h
  obtain ⟨e1, e2⟩ := shO_of h2
  subst e1
  refine ⟨en, (o, en2), a, dd, h1, r, ?_⟩
  cases o with
  | some d => exact fun v H' s1 v1 => hq v H' s1 (v1.sh e2)
  | none => exact fun σ' H' s1 _ => hq .non H' s1 .non
theorem RH.gone {σ : L2.St} {H : Hp} {k : Hd} {en' : List (Option Dt)} {y : Str} {ys : List Dt} (r : RH K ((hcE w FN ET k y ys).up en') a dd σ H) : RH K (hcP w (en'.set k.i none)) a dd (σ.set k.i none) H := by
  refine ⟨fun j d e => ?_, (fun _ _ e => by cases e), (fun f d e => by cases e), by rw [List.length_set]; exact r.len⟩
  have e' : (en'.set k.i none).getD j none = some d := e
  rw [List.getD_eq_getElem?_getD, List.getElem?_set] at e'
  by_cases hj : k.i = j
  · subst hj
    simp only [if_true] at e'
    split at e' <;> cases e'
  · simp only [hj, if_false] at e'
    obtain ⟨v, h1, h2⟩ := r.sl j d (by rw [List.getD_eq_getElem?_getD]; exact e')
    exact ⟨v, by rw [List.getElem?_set_ne hj]; exact h1, h2⟩
theorem allN_no {i : Nat} {d : Dt} (e : (allN w).getD i none = some d) : False := by
  unfold allN at e
  rw [List.getD_eq_getElem?_getD, List.getElem?_map] at e
  cases z : w.N[i]? with
  | none => rw [z] at e; cases e
  | some _ => rw [z] at e; cases e
theorem RH.come {σ : L2.St} {H : Hp} {k : Hd} {y : Str} {ys : List Dt} {cls : Value} (hl : (σ.set k.i (some (.ref a))).length = w.N.length) (hi : k.i < w.N.length) (x : excR K ET CA FN y ys cls dd H) : RH K (hcE w FN ET k y ys) a dd (σ.set k.i (some (.ref a))) H := by
  have hi' : k.i < σ.length := by rw [List.length_set] at hl; rw [hl]; exact hi
  refine ⟨fun j d e => (allN_no e).elim, fun x j e => ?_, fun f d e => ?_, hl⟩
  · have e' : (some (k.n, k.i) : Option (Str × Nat)) = some (x, j) := e
    cases e'
    exact List.getElem?_set_self hi'
  · have e' : ((FN y).zip ys).lookup f = some d := e
    obtain ⟨_, _, _, x4⟩ := x
    have ne : FN y ≠ [] := fun z => by rw [z] at e'; simp at e'
    obtain ⟨da, fs, q1, q2, q3, q4⟩ := x4 ne
    rw [← q3] at e'
    obtain ⟨v, w1, w2⟩ := zip_lookup q4 e'
    exact ⟨da, fs, v, q1, q2, w1, w2⟩
theorem exc_flds {H : Hp} {y : Str} {ys : List Dt} {cls : Value} (x : excR K ET CA FN y ys cls dd H) : (fldsOf FN y ys).isEmpty = (FN y).isEmpty := by
  unfold fldsOf
  by_cases z : FN y = []
  · rw [z]; simp
  · obtain ⟨da, fs, q1, q2, q3, q4⟩ := x.2.2.2 z
    have l1 := q4.length
    have l2 : (FN y).length = ys.length := by rw [← q3]; simpa using l1
    cases hy : FN y with
    | nil => exact absurd hy z
    | cons f r' =>
      rw [hy] at l2
      cases ys with
      | nil => simp at l2
      | cons d ds => rfl
/-- a suite's reading: some error that came -/
def tSuite (K : PySem.W.Frag) (ET : List Str) (CA : Str → Addr) (FN : Str → List Str) (w : Wd) (k : Hd) : Addr → Value → Option Addr → TS := fun a cls dd D σ H =>
  ∃ y ys r, ∃ σ0 : L2.St, excR K ET CA FN y ys cls dd H ∧ σ = σ0.set k.i (some (.ref a)) ∧ hruns (hcE w FN ET k y ys) (.cons k.st k.ss) = some r ∧ hEnd K (hcE w FN ET k y ys) a dd D H r
def hdB (w : Wd) (ET : List Str) (k : Hd) : Bool := decide (w.N[k.i]? = some k.n) && decide (w.sc.names.lookup k.n = some .local) && glB w.sc k.c && ET.contains k.c && k.i != 0
theorem hdB_of {k : Hd} (h : hdB w ET k = true) : w.N[k.i]? = some k.n ∧ w.sc.names.lookup k.n = some .local ∧ glB w.sc k.c = true ∧ k.c ∈ ET := by
  unfold hdB at h
  simp only [Bool.and_eq_true, decide_eq_true_eq, List.contains_eq_mem] at h
  exact ⟨h.1.1.1.1, h.1.1.1.2, h.1.1.2, h.1.2⟩
def lOf (K : PySem.W.Frag) (ET : List Str) (CA : Str → Addr) (FN : Str → List Str) (w : Wd) (hs : List Hd) : List (Value × Nat × (Addr → Value → Option Addr → TS)) := hs.map fun k => (.ref (CA k.c), k.i, tSuite K ET CA FN w k)
theorem nm_of_hs (E : EF X.K X.mg ET CA FN) (hN : X.N = w.N) (hnd : w.N.Nodup) (hsc : X.env.scope = w.sc) (un : X.A.units + 66 < cLine) (his : X.mg "isinstance" = none) : ∀ (hs : List Hd), hs.all (hdB w ET) = true → NmOk X (hs.map Hd.py) (lOf X.K ET CA FN w hs)
  | [], _ => .nil
  | k :: hs, h => by
    simp only [List.all_cons, Bool.and_eq_true] at h
    obtain ⟨h1, h2, h3, h4⟩ := hdB_of h.1
    have gk : Gl X k.c := by show X.env.scope.names.lookup _ = _; rw [hsc]; simpa [glB] using h3
    refine .cons ⟨gk, E.nd k.c h4, .inl (E.gm k.c h4)⟩ (by rw [hN]; exact h1) (by show X.env.scope.names.lookup _ = _; rw [hsc]; exact h2) (fun a oe cls dd pn hz hf => ⟨fun pins s σ H D I g => ?_⟩) (nm_of_hs E hN hnd hsc un his hs h.2)
    obtain ⟨y, ys, r, σ0, x, rfl, y5, y6⟩ := g
    obtain ⟨x1, rfl, x3, x4⟩ := id x
    have hl : (σ0.set k.i (some (.ref a))).length = w.N.length := by rw [← hN]; exact I.len
    exact (hSs (.cons k.st k.ss) (hcx_exc E hN hnd hsc un x1 x3 (exc_flds x) hz hf his) y5).run pins s _ H D I ⟨RH.come hl (List.getElem?_eq_some_iff.mp h1).1 x, y6⟩
theorem hs_wish {σ : L2.St} {H : Hp} {y : Str} {ys : List Dt} {cls : Value} {r0 : Dt} {Q : VK} {Wout : WX} {D : Ends} (hex : ∀ y ∈ ET, ∀ c ∈ ET, PySem.W.exmOne K (.ref (CA y)) (.ref (CA c)) = some (isC y c)) (x : excR K ET CA FN y ys cls dd H) (hq : ∀ v H', Same H H' → Sh K H' v r0 → Q v H')
    (hD : D.rt = Q) (hn : ∀ σ' H', tPost K w { nx := fun _ H' => Q .non H', rt := Q } σ' H' → D.nx σ' H') : ∀ (hs : List Hd), hs.all (hdB w ET) = true → whs w FN ET y ys hs = some r0 → wNm K Wout D (lOf K ET CA FN w hs) cls dd σ H
  | [], _, h => by cases h
  | k :: hs, hb, h => by
    have x' := x
    obtain ⟨x1, rfl, x3, x4⟩ := x
    simp only [List.all_cons, Bool.and_eq_true] at hb
    obtain ⟨b1, b2, b3, b4⟩ := hdB_of hb.1
    refine ⟨isC y k.c, hex y x1 k.c b4, fun hc a na => ?_, fun hc => ?_⟩
    · simp only [whs, hc, if_true, Option.bind_eq_some_iff] at h
      obtain ⟨⟨o, en2⟩, h1, h2⟩ := h
      refine ⟨y, ys, (o, en2), σ, x', rfl, h1, ?_⟩
      cases o with
      | some d =>
        obtain ⟨e1, e2⟩ := shO_of h2
        subst e1
        intro v H' s1 v1
        show D.rt v H'
        rw [hD]
        exact hq v H' s1 (v1.sh e2)
      | none =>
        intro σ' H' s1 r1
        refine hn _ _ (post_end (a := a) (dd := dd) h2 (fun v H2 s2 sh => hq v H2 (Same.trans s1 s2) sh) ?_)
        exact RH.gone r1
    · simp only [whs, hc, Bool.false_eq_true, if_false] at h
      exact hs_wish hex x' hq hD hn hs hb.2 h
def wdB (w : Wd) (ET : List Str) : Bool := decide (w.N[0]? = some w.a) && decide w.N.Nodup && cstHs w.pre && !w.hs.isEmpty && w.hs.all (hdB w ET) && (wpre w).isSome
/-- THE WORD -/
theorem wd_gives {b : B} {x q : Str} {g : Addr} {cdg : Value} (hK : b.K = X.K) (hexc : b.exc = excR X.K ET CA FN) (E : EF X.K X.mg ET CA FN) (un : X.A.units + 80 < cLine) (his : X.mg "isinstance" = none) (hw : wdB w ET = true) :
    GivesTo X w.N x w.sc g cdg w.py w.a q (TTw b (wval w) (wexc w FN ET)) := by
  intro f c' s H Q tl act hc htt
  unfold wdB at hw
  simp only [Bool.and_eq_true, decide_eq_true_eq, Bool.not_eq_true'] at hw
  obtain ⟨⟨⟨⟨⟨w1, w2⟩, w3⟩, w4⟩, w5⟩, w6⟩ := hw
  generalize hY : (cxOf C8.CX0 X.prog X.w X.K X.mg X.base w.N x w.sc g cdg X.A X.stack s H C8.E0) = Y at act ⊢
  have yN : Y.N = w.N := by subst hY; rfl
  have ysc : Y.env.scope = w.sc := by subst hY; rfl
  have yK : Y.K = X.K := by subst hY; rfl
  have ymg : Y.mg = X.mg := by subst hY; rfl
  have yun : Y.A.units + 66 < cLine := by subst hY; show X.A.units + 3 + 66 < cLine; omega
  have ystk : Y.nox.stack = Y.nox.env :: Y.nox.outer := by subst hY; rfl
  have yfr : Y.nox.env.frame = some Y.nox.env.locals := by subst hY; rfl
  have EY : EF Y.nox.K Y.nox.mg ET CA FN := by show EF Y.K Y.mg ET CA FN; rw [yK, ymg]; exact E
  have ishY : Y.nox.mg "isinstance" = none := by show Y.mg _ = _; rw [ymg]; exact his
  cases hp : wpre w with
  | none =>
    rw [hp] at w6; cases w6
  | some en =>
    have hp' := hp
    unfold wpre at hp
    simp only [Option.bind_eq_some_iff] at hp
    obtain ⟨⟨o, en2⟩, hp1, hp2⟩ := hp
    cases o with
    | some d => cases hp2
    | none =>
      simp only at hp2
      split at hp2
      case isFalse => cases hp2
      rename_i hat
      cases hp2
      cases hh : w.hs with
      | nil => rw [hh] at w4; cases w4
      | cons k ks =>
        have tryP := ps_try_nm (X := Y.nox) (body := [.Expr (.Call (.Name w.a w.p1) [] [] w.p2) w.p3]) (pos := w.p4) (Wout := fun _ _ _ _ => False)
          (tb := fun W D σ H => ∃ (Ech : XK) (Qv : VK), (∀ (cls : Value) (d : Option Addr) (σ' : L2.St) (H' : Hp), Ech cls d H' → W cls d σ' H') ∧ σ[0]? = some (some (.ref f)) ∧ H c' = some (CodeO c' q) ∧ tl Ech H Qv ∧ ∀ v H1, Qv v H1 → D.nx σ H1)
          ystk yfr (by show Y.N.Nodup; rw [yN]; exact w2) LamX.takes0 (fun W pn xe tk _ => by
            refine ⟨fun pins s' σ H' D I h' => ?_⟩
            obtain ⟨Ech, Qv, hW, h1, h2, h3, h4⟩ := h'
            have pe : PE (Y.nox.tr pn xe) (.Call (.Name w.a w.p1) [] [] w.p2) (fun σZ HZ Q => σZ[0]? = some (some (.ref f)) ∧ HZ c' = some (CodeO c' q) ∧ tl Ech HZ Qv ∧ ∀ v H1, Qv v H1 → Q v H1) := by
              refine ⟨fun pins s2 σ2 H2 Q2 I2 g => ?_⟩
              exact wpAny_mono ((act W pn xe Ech w.p1 w.p2 tk hW).run pins s2 σ2 H2 Qv I2 ⟨g.1, g.2.1, g.2.2.1⟩) (fun u s3 ⟨v, H3, J, r, z⟩ => ⟨v, H3, J, r, g.2.2.2 v H3 z⟩) fun _ _ z => z
            exact (pss_one (ps_expr (pos := w.p3) pe)).run pins s' σ H' D I ⟨h1, h2, h3, h4⟩)
          (nm_of_hs EY yN w2 ysc yun ishY (k :: ks) (by rw [← hh]; exact w5))
        have postP : PSs Y.nox (pyHSs w.post) (tPost Y.nox.K w) := post_ok yN w2 ysc yun
        have allP := pre_ok (a := 0) (dd := none) w.pre (hcx_plain (X := Y.nox) yN w2 ysc yun) w3 hp1 (pss_cons tryP postP) (f := f)
        refine ⟨_, by unfold Wd.py; rw [hh]; exact allP, ?_⟩
        refine ⟨⟨fun i d e => ?_, (fun _ _ e => by cases e), (fun f d e => by cases e), ?_⟩, ?_, fun σ' r1 z0 => ?_⟩
        · exfalso
          exact allN_no e
        · show (L2.start w.N [V.ref f]).length = w.N.length
          unfold L2.start
          have : 0 < w.N.length := (List.getElem?_eq_some_iff.mp w1).1
          simp; omega
        · unfold L2.start; rfl
        · have Kb : Y.nox.K = b.K := by rw [hK]; exact yK
          refine ⟨_, _, fun cls d σ2 H2 hx => ?_, z0, hc, htt, fun v H1 hv => ?_⟩
          · obtain ⟨y, ys, r, x1, x2, x3⟩ := hx
            unfold wexc at x2
            split at x2
            · rw [hexc, ← yK] at x1
              rw [hh] at x2
              refine hs_wish EY.ex x1 (Q := Q) (fun v H' s1 sh => x3 v H' s1 (by rw [← Kb]; exact sh)) rfl (fun _ _ z => z) (k :: ks) (by rw [← hh]; exact w5) x2
            · cases x2
          · obtain ⟨T, d, A, _, r, q1, q2⟩ := hv
            unfold wval at q1
            rw [hp'] at q1
            refine post_end (a := 0) (dd := none) q1 (fun v' H' s1 sh => q2 v' H' s1 (by rw [← Kb]; exact sh)) (r1.any hat)
end
end VL


set_option Elab.async false
set_option linter.all false
set_option maxRecDepth 100000
set_option maxHeartbeats 2000000
/-! VL33: all defs of a text; its head and its end. -/
namespace VL
open PySem PySem.Spec PyProof.Rows L2
abbrev Defs (P : Program) (w : World) (K : PySem.W.Frag) (mg : Str → Option Value) (base : Heap) (b : B) (T : List Fn) : Prop := ∀ (j : Nat) (F : Fn) (k : Nat), T[j]? = some F → F.lev ≤ k → F.lev ≤ 100000 → ∃ ad fd pn, FnOk P w K mg base (L2.CX P w) k ad fd pn (spV b F) ∧ mg F.nm = some (.ref ad) ∧ PySem.W.keepIn K (.ref ad) = true ∧ Binds K fd pn [] ∧ (F.nm == ("__debug__" : Str)) = false
/-- a def's own promise, where it stands -/
structure DefOk (P : Program) (w : World) (K : PySem.W.Frag) (mg : Str → Option Value) (base : Heap) (b : B) (F : Fn) (ad : Addr) (fd : FuncData) (pn : List Str) : Prop where
  run : FnOk P w K mg base (L2.CX P w) F.lev ad fd pn (spV b F)
  mgf : mg F.nm = some (.ref ad)
  kp : PySem.W.keepIn K (.ref ad) = true
  bd : Binds K fd pn []
  nd : (F.nm == ("__debug__" : Str)) = false
section
variable {P : Program} {w : World} {K : PySem.W.Frag} {mg : Str → Option Value} {base : Heap} {b : B} {T : List Fn} {F : Fn}
theorem defs_nil : Defs P w K mg base b [] := fun j F k h => by simp at h
theorem defs_snoc (h : Defs P w K mg base b T) (h1 : F.lev ≤ 100000 → ∃ ad fd pn, DefOk P w K mg base b F ad fd pn) : Defs P w K mg base b (T ++ [F]) := fun j G k hj hk hl => by
  by_cases hlt : j < T.length
  · rw [List.getElem?_append_left hlt] at hj
    exact h j G k hj hk hl
  · rw [List.getElem?_append_right (by omega)] at hj
    have e : G = F := by
      cases q : j - T.length with
      | zero => rw [q] at hj; simpa using hj.symm
      | succ n => rw [q] at hj; simp at hj
    subst e
    obtain ⟨ad, fd, pn, o⟩ := h1 hl
    exact ⟨ad, fd, pn, o.run.mono hk, o.mgf, o.kp, o.bd, o.nd⟩
/-- what stays the same for all defs -/
structure WT (K : PySem.W.Frag) (mg : Str → Option Value) (b : B) (GT : List (Str × Int)) (ET : List Str) : Prop where
  gls : ∀ (x : Str) (n : Int), GT.lookup x = some n → ∃ tk, mg x = some (.int n tk)
  ets : ∀ x ∈ ET, ∃ (C : Addr) (bmB : List Value) (B newId initId : String), ExcBaseFacts B newId initId bmB ∧ PySem.W.excIn K C bmB newId = true ∧ mg x = some (.ref C) ∧ PySem.W.keepIn K (.ref C) = true ∧ (∀ X : Cx, X.K = K → Raises X (.ref C)) ∧ ∀ H, b.exc x [] (.ref C) none H
  bt : ∀ x ∈ btL, mg (Str.ofString x) = none
  hK : b.K = K
theorem def_run {s : Sg} {ET : List Str} {x : Str} {st : Stmt} {ad : Addr} {fd : FuncData} {pn : List Str} {body : Ss} (E : WT K mg b s.GT ET) (D : Defs P w K mg base b s.TT) (FF : FunD K x x (defArgs st) (defBody st) (defScope st) [] [] ad fd) (hm : mg x = some (.ref ad)) (hn : F.nm = x) (hl : F.lev = s.lv + 1)
    (S : C8.scC s.N pn (defScope st) = true) (hb : defBody st = pySs body) (hps : F.ps.length = pn.length) (hsem : F.sem = run s.TT s.N.length F.ps.length body) (hck : ckDef s ET (defScope st) F body = true) (hbd : ∀ (kV doc pm : Value) (an : Option Addr) (cdv ct : Value) (us : List Value), us.length = pn.length → bindArgs (PySem.W.fnOf x x (defArgs st) (defBody st) (defScope st) .none kV doc pm an cdv ct) ⟨us, []⟩ = pure (pn.zip us))
    (hd : (x == ("__debug__" : Str)) = false) (TW : ∀ (j : Nat) (G : Fn), s.WL.contains j = true → s.TT[j]? = some G → WdT K mg base b x fd G) : DefOk P w K mg base b F ad fd pn := by
  obtain ⟨r, h1, h2⟩ := ckDef_of hck
  refine ⟨?_, by rw [hn]; exact hm, FF.kp, FF.bindsN hbd, by rw [hn]; exact hd⟩
  rw [hl]
  exact def_ok FF (C8.fnScope_by S) hb hps hsem ⟨D, E.gls, E.ets, E.bt, E.hK⟩ TW h1 h2
end
/-! ### the world of a claim -/
def tbOf (K : PySem.W.Frag) (tf : List He.Defn) : List (Addr × Str) := tf.map fun p => ((He.cT K p).2, p.1 ++ ".<locals>." ++ "<lambda>")
theorem tabs_keep {T : List (Addr × Str)} {H H' : Hp} (k : ∀ a o, H a = some o → (∀ xs, o ≠ .lst xs) → ((∀ kvs, o ≠ .dK kvs) ∧ ∀ kvs, o ≠ .dT kvs) → H' a = some o) (t : LamX.Tabs T H) : LamX.Tabs T H' := fun p hp => by
  obtain ⟨ps, h1, h2, h3⟩ := t p hp
  refine ⟨ps, k _ _ h1 (fun _ z => by cases z) ⟨(fun _ z => by cases z), (fun _ z => by cases z)⟩, h2, fun pos cv hc => ?_⟩
  obtain ⟨c, e1, e2⟩ := h3 pos cv hc
  exact ⟨c, e1, k _ _ e2 (fun _ z => by unfold LamX.CodeO at z; cases z) ⟨(fun _ z => by unfold LamX.CodeO at z; cases z), (fun _ z => by unfold LamX.CodeO at z; cases z)⟩⟩
def bOf (K : PySem.W.Frag) (tf : List He.Defn) (ET : List Str) (FN : Str → List Str) : B where
  K := K
  tabs := LamX.Tabs (tbOf K tf)
  exc := excR K ET (fun c => He.ga K c) FN
  tm := fun _ _ k t => tabs_keep k t
/-! ### the law called -/
theorem law_start {K : PySem.W.Frag} {b : B} {F : Fn} {H : Hp} {a : Addr} {ns : List Int} {outs : List Dt} (hK : b.K = K) (hps : F.ps = [.bor .ks]) (hrt : F.rt = .sh) (hS : SqL K H a (ns.map V.int)) (ht : b.tabs H) (hsem : F.sem [.list (ns.map .int)] = .ok (.bool true, outs)) :
    spV b F [.ref a] H (fun v _ => v = .bl true) fun _ _ _ => False := by
  subst hK
  have rep : ∃ A, Rep b.K H .ks (.ref a) (.list (ns.map .int)) A := by
    rcases hS with (h | h) | h
    · exact ⟨_, .kl h (ints_sha ns)⟩
    · exact ⟨_, .ks (.inl h) (ints_sha ns)⟩
    · exact ⟨_, .ks (.inr h) (ints_sha ns)⟩
  obtain ⟨A, rep⟩ := rep
  refine ⟨by rw [hps]; rfl, [.list (ns.map .int)], fun i => if i = 0 then A else [], ?_, ?_⟩
  · rw [hps]
    refine ⟨rfl, rfl, fun i sl h n => ?_, fun i h => ?_, fun i j a hij ho => ?_, ht⟩
    · cases i with
      | zero =>
        cases h
        exact ⟨.ref a, rfl, .inl rep⟩
      | succ i => simp at h
    · cases i with
      | zero => cases h
      | succ i => rfl
    · exfalso
      cases i with
      | zero => cases ho
      | succ i => cases i <;> cases ho
  · rw [hsem]
    intro v H' f' A' r
    have z := r.rep
    rw [hrt] at z
    cases z with
    | sh z => cases z; rfl
theorem cx_none {P : Program} {w : World} {H : Hp} {s : Shared} {e : Value} {s' : Shared} (h : L2.CX P w [] H s (fun _ _ _ => False) e s') : False := by
  obtain ⟨_, _, _, _, _, _, _, _, _, _, _, _, z⟩ := h
  exact z
/-! ### facts off the head -/
def exB (ET : List Str) (FN : Str → List Str) (tf : List He.Defn) (K : PySem.W.Frag) : Bool :=
  (ET.all fun y => (ET.all fun c => decide (PySem.W.exmOne K (.ref (He.ga K y)) (.ref (He.ga K c)) = some (isC y c)) && decide (PySem.W.kitOne K (.ref (He.ga K y)) (.ref (He.ga K c)) = some (isC y c)))
      && decide (PySem.W.kitOne K (.ref (He.ga K y)) (.type "ValueError") = some true)
      && decide (PySem.W.findIn K (.ref (He.ga K y)) "__getattribute__" = some (some (.builtin "BaseException.__getattribute__")))
      && decide (PySem.W.findIn K (.ref (He.ga K y)) "__getattr__" = some none)
      && decide (PySem.W.subIn K (.ref (He.ga K y)) (.type "BaseException") = some true)
      && PySem.W.hasDictIn K (He.ga K y)
      && decide (PySem.W.findIn K (.ref (He.ga K y)) "__class__" = some (some (.builtin "object.__class__")))
      && decide (PySem.W.specialIn K (.builtin "object.__class__") "__get__" = some (some (.builtin "getset_descriptor.__get__")))
      && decide (PySem.W.takesIn K (.builtin "object.__class__") = some true)
      && decide (PySem.W.mroIn K (He.ga K y) (.type "object") = some true)
      && ((FN y).all fun f => decide (PySem.W.findIn K (.ref (He.ga K y)) f = some none))
      && !(y == ("__debug__" : Str)))
  && ((tbOf K tf).all fun p => (tbOf K tf).all fun q => !(decide (p.1 = q.1)) || decide (p.2 = q.2))
theorem ef_of {K : PySem.W.Frag} {mg : Str → Option Value} {ET : List Str} {FN : Str → List Str} {tf : List He.Defn} (hgl : ∀ c ∈ ET, mg c = some (.ref (He.ga K c))) (hve : mg "ValueError" = none) (e : exB ET FN tf K = true) :
    EF K mg ET (fun c => He.ga K c) FN ∧ ∀ p ∈ tbOf K tf, ∀ q ∈ tbOf K tf, q.1 = p.1 → q.2 = p.2 := by
  unfold exB at e
  rw [Bool.and_eq_true] at e
  obtain ⟨e1, e2⟩ := e
  simp only [List.all_eq_true, Bool.and_eq_true, decide_eq_true_eq, Bool.not_eq_true', Bool.or_eq_true, decide_eq_false_iff_not] at e1 e2
  refine ⟨⟨hgl, hve, fun y hy c hc => ((e1 y hy).1.1.1.1.1.1.1.1.1.1.1 c hc).1, fun y hy c hc => ((e1 y hy).1.1.1.1.1.1.1.1.1.1.1 c hc).2, fun y hy => (e1 y hy).1.1.1.1.1.1.1.1.1.1.2, fun y hy => ?_, fun y hy f hf => ?_, fun y hy => (e1 y hy).2⟩, fun p hp q hq z => ?_⟩
  · obtain ⟨⟨⟨⟨⟨⟨⟨⟨⟨⟨⟨_, _⟩, a1⟩, a2⟩, a3⟩, a4⟩, a5⟩, a6⟩, a7⟩, a8⟩, _⟩, _⟩ := e1 y hy
    exact ⟨a1, a2, a3, a4, a5, a6, a7, a8⟩
  · obtain ⟨⟨⟨⟨⟨⟨⟨⟨⟨⟨⟨_, _⟩, a1⟩, a2⟩, a3⟩, a4⟩, a5⟩, a6⟩, a7⟩, a8⟩, a9⟩, _⟩ := e1 y hy
    exact ⟨⟨a1, a2, a3, a4⟩, a9 f hf⟩
  · rcases e2 q hq p hp with y | y
    · exact absurd z y
    · exact y
end VL


set_option Elab.async false
set_option linter.all false
set_option maxRecDepth 100000
set_option maxHeartbeats 2000000
/-! VL34: a word def of a claim's text; the claim's facts in one place. -/
namespace VL
open PySem PySem.Spec PyProof.Rows L2
def faKey : He.Fa → Nat × Str × Str × Int × Bool × Option Str
  | .glo x => (0, x, "", 0, false, none)
  | .free x => (1, x, "", 0, false, none)
  | .int x i => (2, x, "", i, false, none)
  | .str x z => (3, x, z, 0, false, none)
  | .cls x => (4, x, "", 0, false, none)
  | .noat x f => (5, x, f, 0, false, none)
  | .meth x m => (6, x, m, 0, false, none)
  | .mkr x => (7, x, "", 0, false, none)
  | .exc x => (8, x, "", 0, false, none)
  | .exm x y b => (9, x, y, 0, b, none)
  | .keep x => (10, x, "", 0, false, none)
  | .code p q => (11, p.1, q, 0, false, p.2)
theorem faKey_inj {a b : He.Fa} (h : faKey a = faKey b) : a = b := by
  cases a <;> cases b <;> simp [faKey] at h <;> simp [h]
  all_goals first | exact Prod.ext h.1 h.2.2 | skip
instance : DecidableEq He.Fa := fun _ _ => decidable_of_iff (faKey _ = faKey _) ⟨faKey_inj, fun h => congrArg faKey h⟩
def wdFn (nm : Str) (FN : Str → List Str) (ET : List Str) (wd : Wd) : Fn := ⟨nm, [.own .sh], .sh, 1000000, wdSem (wval wd) (wexc wd FN ET)⟩
section
variable {K : PySem.W.Frag} {mg : Str → Option Value} {base : Heap} {ET : List Str} {FN : Str → List Str} {tf : List He.Defn}
theorem wdT_of {wd : Wd} {nm q : Str} {args argsW : Arguments} {body : List Stmt} {sc : Scope} {fd fdw : FuncData} (Fq : FunD K q q args body sc [] [] (He.fAd K (q, none)) fd) (Fw : FunD K nm nm argsW wd.py wd.sc [] [] (He.fAd K (nm, none)) fdw)
    (E : EF K mg ET (fun c => He.ga K c) FN) (U : ∀ p ∈ tbOf K tf, ∀ q ∈ tbOf K tf, q.1 = p.1 → q.2 = p.2) (his : mg "isinstance" = none) (hm : mg nm = some (.ref (He.ga K nm))) (hw : wdB wd ET = true) (S : C8.scC wd.N [wd.a] wd.sc = true) (hv : visB wd.sc wd.a = true)
    (hbd : ∀ (kV doc pm : Value) (an : Option Addr) (cdv ct : Value) (us : List Value), us.length = [wd.a].length → bindArgs (PySem.W.fnOf nm nm argsW wd.py wd.sc .none kV doc pm an cdv ct) ⟨us, []⟩ = pure ([wd.a].zip us))
    (htf : ((q, none) : He.Defn) ∈ tf) (tb : LamX.TabB base mg (He.cT K (q, none)).1 (He.cT K (q, none)).2) (hd : (nm == ("__debug__" : Str)) = false) (ha : (wd.a == ("__debug__" : Str)) = false) (ha2 : (wd.a == ("__classdict__" : Str)) = false) : WdT K mg base (bOf K tf ET FN) q fd (wdFn nm FN ET wd) := by
  have bnd := Fw.bindsN (ps := [wd.a]) hbd
  obtain ⟨oc, od, dV, kV, doc, pm, an, cdv, ct, osl, rfl, lk, hcd, hD, _⟩ := Fw.ex
  obtain ⟨oc1, od1, dV1, kV1, doc1, pm1, an1, cdv1, ct1, osl1, rfl, lk1, hcd1, _, _⟩ := Fq.ex
  obtain ⟨c, rfl⟩ := He.codeIn_ref hcd1
  have hcode : He.codeOf K (q, none) = c := He.codeOf_eq lk1 rfl
  have hN0 : wd.N[0]? = some wd.a := by
    unfold wdB at hw
    simp only [Bool.and_eq_true, decide_eq_true_eq] at hw
    exact hw.1.1.1.1.1
  have mem : ((He.cT K (q, none)).2, q ++ ".<locals>." ++ "<lambda>") ∈ tbOf K tf := List.mem_map.mpr ⟨(q, none), htf, rfl⟩
  refine ⟨wval wd, wexc wd FN ET, tbOf K tf, wd.a, He.fAd K (nm, none), (He.cT K (q, none)).1, (He.cT K (q, none)).2, argsW, wd.py, wd.sc, dV, kV, doc, pm, cdv, ct, oc, an, od, osl, wd.N, rfl, fun _ => Iff.rfl, hm, Fw.kp, lk, hcd, bnd, C8.fnScope_by S, hN0, vis_of hv, ?_, tb, ?_, mem, fun p hp z => ?_, hd, ha, ha2⟩
  · intro X q' e1 e2 e3
    subst e1 e2
    exact wd_gives (b := bOf X.K tf ET FN) (CA := fun c => He.ga X.K c) (FN := FN) (ET := ET) rfl rfl E e3 his hw
  · show (Value.ref c) = .ref (He.codeOf K (q, none))
    rw [hcode]
  · exact U _ mem p hp z
end
/-- what the head tells -/
structure AH (fa : List He.Fa) (fn : List He.DefD) (tf : List He.Defn) (ET : List Str) (FN : Str → List Str) (w : World) (h : Heap) (K : PySem.W.Frag) (mg : Str → Option Value) : Prop where
  X : K.In h
  G : h.Ns mainGlobals mg
  c : He.SaysX fa fn [] tf (exB ET FN tf) w h K
section
variable {fa : List He.Fa} {fn : List He.DefD} {tf : List He.Defn} {ET : List Str} {FN : Str → List Str} {w : World} {h : Heap} {K : PySem.W.Frag} {mg : Str → Option Value}
theorem AH.fact (A : AH fa fn tf ET FN w h K mg) {f : He.Fa} (m : f ∈ fa) : f.ok K = true := He.SaysD.facts A.c.t.d m
theorem AH.glo (A : AH fa fn tf ET FN w h K mg) {x : Str} (m : He.Fa.glo x ∈ fa) : mg x = some (.ref (He.ga K x)) := He.glo_ok A.X A.G (A.fact m)
theorem AH.free (A : AH fa fn tf ET FN w h K mg) {x : Str} (m : He.Fa.free x ∈ fa) : mg x = none := He.free_ok A.X A.G (A.fact m)
theorem AH.ef (A : AH fa fn tf ET FN w h K mg) (hg : ∀ c ∈ ET, He.Fa.glo c ∈ fa) (hve : He.Fa.free "ValueError" ∈ fa) : EF K mg ET (fun c => He.ga K c) FN ∧ ∀ p ∈ tbOf K tf, ∀ q ∈ tbOf K tf, q.1 = p.1 → q.2 = p.2 :=
  ef_of (fun c hc => A.glo (hg c hc)) (A.free hve) A.c.more
theorem AH.def_ (A : AH fa fn tf ET FN w h K mg) {d : He.DefD} (m : d ∈ fn) : ∃ fd, FunD K d.name d.qual d.params d.body d.scope (d.dvs K) (d.kws K) (He.fAd K d.at_) fd := He.SaysD.defs A.c.t.d m
theorem wt_of (A : AH fa fn tf ET FN w h K mg) {GT : List (Str × Int)} {E0 : List Str} (hG : ∀ p ∈ GT, He.Fa.int p.1 p.2 ∈ fa) (hE : ∀ x ∈ E0, He.Fa.exc x ∈ fa ∧ He.Fa.glo x ∈ fa ∧ x ∈ ET ∧ FN x = []) (hB : ∀ x ∈ btL, He.Fa.free (Str.ofString x) ∈ fa) : WT K mg (bOf K tf ET FN) GT E0 := by
  refine ⟨fun x n hl => ?_, fun x hx => ?_, fun x hx => A.free (hB x hx), rfl⟩
  · exact He.int_ok A.X A.G (A.fact (hG _ (PySem.mem_of_lookup hl)))
  · obtain ⟨h1, h2, h3, h4⟩ := hE x hx
    obtain ⟨e1, e2, e3, e4⟩ := He.exc_ok (A.fact h1)
    exact ⟨He.ga K x, _, _, _, _, PySem.F.excBase_ValueError, e1, A.glo h2, e2, fun X hX => raises_own (by rw [hX]; exact e3) (by rw [hX]; exact e4), fun H => ⟨h3, rfl, fun _ => rfl, fun z => absurd h4 z⟩⟩
theorem law_at {l : PySem.W.OpenLaw} {k n : Nat} {x lw : Str} {F : Fn} {d : He.DefD} (A : AH fa fn tf ET FN w h K mg) (hd : d ∈ fn) (hat : d.at_ = (lw, none)) (hdf : d.dfl = []) (hkw : d.kwd = [])
    (hbd : ∀ (kV doc pm : Value) (an : Option Addr) (cdv ct : Value) (us : List Value), us.length = [x].length → bindArgs (PySem.W.fnOf d.name d.qual d.params d.body d.scope .none kV doc pm an cdv ct) ⟨us, []⟩ = pure ([x].zip us))
    (hps : F.ps = [.bor .ks]) (hrt : F.rt = .sh) (hk : F.lev ≤ k) (hsem : ∀ ns : List Int, ns.length ≤ n → (∀ z ∈ ns, Builtin.Int.intBits z ≤ 1048576) → ∃ outs, F.sem [.list (ns.map .int)] = .ok (.bool true, outs))
    (hrun : ∀ (fd : FuncData), FunD K d.name d.qual d.params d.body d.scope [] [] (He.fAd K (lw, none)) fd → ∀ base : Heap, K.In base → base.Ns mainGlobals mg → (∀ p ∈ tf, LamX.TabB base mg (He.cT K p).1 (He.cT K p).2) → DefOk l.prog w K mg base (bOf K tf ET FN) F (He.ga K lw) fd [x]) :
    LamX.LawAtS l w K (L2.CX l.prog w) k n x mg (He.ga K lw) h := by
  obtain ⟨fd, FD⟩ := A.def_ hd
  have FD' : FunD K d.name d.qual d.params d.body d.scope [] [] (He.fAd K (lw, none)) fd := by
    rw [← hat]
    have e1 : d.dvs K = [] := by unfold He.DefD.dvs; rw [hdf]; rfl
    have e2 : d.kws K = [] := by unfold He.DefD.kws; rw [hkw]; rfl
    rw [← e1, ← e2]
    exact FD
  have b := FD'.bindsA (ps := [x]) hbd
  refine ⟨fd, tf.map (He.cT K), spV (bOf K tf ET FN) F, fun p hp => ?_, fun p hp => ?_, fun p hp => ?_, fun s u => b s [u] rfl, fun H a ns hl hb hT hS => ?_, fun base hK hN hB => ?_⟩
  · obtain ⟨q, hq, rfl⟩ := List.mem_map.mp hp
    exact A.c.empty q hq
  · obtain ⟨q, hq, rfl⟩ := List.mem_map.mp hp
    exact A.c.out q hq
  · obtain ⟨q, hq, rfl⟩ := List.mem_map.mp hp
    exact PySem.W.codeHd_of_K A.X (A.c.hd q hq)
  · obtain ⟨outs, hs⟩ := hsem ns hl hb
    refine law_start rfl hps hrt hS ?_ hs
    intro p hp
    obtain ⟨q, hq, rfl⟩ := List.mem_map.mp hp
    exact LamX.TabS.nil (hT _ (List.mem_map.mpr ⟨q, hq, rfl⟩))
  · exact (hrun fd FD' base hK hN fun p hp => hB _ (List.mem_map.mpr ⟨p, hp, rfl⟩)).run.mono hk
end
end VL


set_option Elab.async false
set_option linter.all false
set_option maxRecDepth 100000
/-! VL40: plain reckoning with the trees, by simp. -/
namespace VL
open PySem
def rb {a b : Type} (r : R (a × Ev)) (f : a → Ev → R (b × Ev)) : R (b × Ev) := match r with
  | .ok (x, e) => f x e
  | .exc c xs => .exc c xs
  | .err => .err
@[simp] theorem rb_ok {a b : Type} (x : a) (e : Ev) (f : a → Ev → R (b × Ev)) : rb (.ok (x, e)) f = f x e := Eq.trans rfl rfl
@[simp] theorem rb_exc {a b : Type} (c : Str) (xs : List Dt) (f : a → Ev → R (b × Ev)) : rb (.exc c xs) f = .exc c xs := Eq.trans rfl rfl
@[simp] theorem rb_err {a b : Type} (f : a → Ev → R (b × Ev)) : rb .err f = .err := Eq.trans rfl rfl
@[simp] theorem mb_at {a b : Type} (m : M a) (f : a → M b) (e : Ev) : mb m f e = rb (m e) fun x e1 => f x e1 := Eq.trans rfl rfl
@[simp] theorem mp_at {a : Type} (x : a) (e : Ev) : mp x e = .ok (x, e) := Eq.trans rfl rfl
@[simp] theorem mo_some {a : Type} (x : a) (e : Ev) : mo (some x) e = .ok (x, e) := Eq.trans rfl rfl
@[simp] theorem mo_none {a : Type} (e : Ev) : mo (none : Option a) e = .err := Eq.trans rfl rfl
section
variable (T : List Fn) (e : Ev)
@[simp] theorem ev_var (x : Str) (i : Nat) (p : Pos) : ev T (.var x i p) e = .ok (e.getD i .none, e) := Eq.trans rfl rfl
@[simp] theorem ev_gl (x : Str) (d : Dt) (p : Pos) : ev T (.gl x d p) e = .ok (d, e) := Eq.trans rfl rfl
@[simp] theorem ev_non (p : Pos) : ev T (.non p) e = .ok (.none, e) := Eq.trans rfl rfl
@[simp] theorem ev_bl (b : Bool) (p : Pos) : ev T (.bl b p) e = .ok (.bool b, e) := Eq.trans rfl rfl
@[simp] theorem ev_int (n : Int) (p : Pos) : ev T (.int n p) e = .ok (.int n, e) := Eq.trans rfl rfl
@[simp] theorem ev_str (n : Str) (p : Pos) : ev T (.str n p) e = .ok (.str n, e) := Eq.trans rfl rfl
@[simp] theorem ev_bop (t : Ty) (o : Operator) (a b : E) (p : Pos) : ev T (.bop t o a b p) e = rb (ev T a e) fun x e1 => rb (ev T b e1) fun y e2 => mo ((opB o x y).bind (chkT t)) e2 := Eq.trans rfl rfl
@[simp] theorem ev_neg (a : E) (p : Pos) : ev T (.neg a p) e = rb (ev T a e) fun x e1 => mo (negD x) e1 := Eq.trans rfl rfl
@[simp] theorem ev_not (a : E) (p : Pos) : ev T (.not a p) e = rb (ev T a e) fun x e1 => mo ((truD x).map fun b => .bool (!b)) e1 := Eq.trans rfl rfl
@[simp] theorem ev_and (es : Es) (p : Pos) : ev T (.and es p) e = evAnd T es e := Eq.trans rfl rfl
@[simp] theorem ev_or (es : Es) (p : Pos) : ev T (.or es p) e = evOr T es e := Eq.trans rfl rfl
@[simp] theorem ev_cmp (o : CmpOp) (a b : E) (p : Pos) : ev T (.cmp o a b p) e = rb (ev T a e) fun x e1 => rb (ev T b e1) fun y e2 => mo ((opC o x y).map .bool) e2 := Eq.trans rfl rfl
@[simp] theorem ev_cmp2 (o o' : CmpOp) (a b c : E) (p : Pos) : ev T (.cmp2 o o' a b c p) e = rb (ev T a e) fun x e1 => rb (ev T b e1) fun y e2 => rb (mo (opC o x y) e2) fun k e3 => (match k with | true => mb (ev T c) (fun z => mo ((opC o' y z).map PyData.bool)) | false => mp (PyData.bool false) : M Dt) e3 := Eq.trans rfl rfl
@[simp] theorem ev_ife (c a b : E) (p : Pos) : ev T (.ife c a b p) e = rb (tst T c e) fun k e1 => (match k with | true => ev T a | false => ev T b) e1 := Eq.trans rfl rfl
@[simp] theorem ev_tup (es : Es) (p : Pos) : ev T (.tup es p) e = rb (evs T es e) fun xs e1 => mo (if xs.length ≤ sizeLine then some (.tuple xs) else none) e1 := Eq.trans rfl rfl
@[simp] theorem ev_lst (t : Ty) (es : Es) (p : Pos) : ev T (.lst t es p) e = rb (evs T es e) fun xs e1 => mo (if xs.length ≤ sizeLine then some (.list xs) else none) e1 := Eq.trans rfl rfl
@[simp] theorem ev_dct0 (p : Pos) : ev T (.dct0 p) e = .ok (.dict [], e) := Eq.trans rfl rfl
@[simp] theorem ev_sub (a i : E) (p : Pos) : ev T (.sub a i p) e = rb (ev T a e) fun x e1 => rb (ev T i e1) fun y e2 => mo (subD x y) e2 := Eq.trans rfl rfl
@[simp] theorem ev_slc (t : Ty) (a : E) (lo hi : Oe) (q p : Pos) : ev T (.slc t a lo hi q p) e = rb (ev T a e) fun x e1 => rb (evo T lo e1) fun l e2 => rb (evo T hi e2) fun h e3 => mo ((slcD x l h).bind (chkT t)) e3 := Eq.trans rfl rfl
@[simp] theorem ev_b1 (f : B1) (a : E) (q p : Pos) : ev T (.b1 f a q p) e = rb (ev T a e) fun x e1 => mo (apB1 f x) e1 := Eq.trans rfl rfl
@[simp] theorem ev_b1r (f : B1) (es : Es) (q q2 q3 p : Pos) : ev T (.b1r f es q q2 q3 p) e = rb (evs T es e) fun xs e1 => mo ((rangeOf xs).bind fun ds => apB1 f (.list ds)) e1 := Eq.trans rfl rfl
@[simp] theorem ev_isi (a : E) (c : Ic) (q q2 p : Pos) : ev T (.isi a c q q2 p) e = rb (ev T a e) fun x e1 => .ok (.bool (isiD x c), e1) := Eq.trans rfl rfl
@[simp] theorem ev_frz (a : E) : ev T (.frz a) e = ev T a e := Eq.trans rfl rfl
theorem ev_call (j : Nat) (x : Str) (es : Es) (q p : Pos) {F : Fn} (h : T[j]? = some F) : ev T (.call j x es q p) e = rb (evsA T es F.ps e) fun xs e1 => (match F.sem xs with
    | .ok (d, outs) => .ok (d, setOuts outs (outSlots F.ps es 0) e1)
    | .exc c ys => .exc c ys
    | .err => .err) := by
  show (match T[j]? with
      | some f => mb (evsA T es f.ps) fun xs e =>
        (match f.sem xs with
         | .ok (d, outs) => .ok (d, setOuts outs (outSlots f.ps es 0) e)
         | .exc c ys => .exc c ys
         | .err => .err)
      | none => fun _ => .err) e = _
  rw [h]
  rfl
@[simp] theorem evs_nil : evs T .nil e = .ok ([], e) := Eq.trans rfl rfl
@[simp] theorem evs_cons (a : E) (r : Es) : evs T (.cons a r) e = rb (ev T a e) fun x e1 => rb (evs T r e1) fun xs e2 => .ok (x :: xs, e2) := Eq.trans rfl rfl
@[simp] theorem evsA_nil (ps : List Sl) : evsA T .nil ps e = .ok ([], e) := Eq.trans rfl rfl
@[simp] theorem evsA_own (a : E) (r : Es) (t : Ty) (ps : List Sl) : evsA T (.cons a r) (.own t :: ps) e = rb (ev T a e) fun x e1 => rb (evsA T r ps e1) fun xs e2 => .ok (x :: xs, e2) := Eq.trans rfl rfl
@[simp] theorem evsA_bor (a : E) (r : Es) (t : Ty) (ps : List Sl) : evsA T (.cons a r) (.bor t :: ps) e = rb (ev T a e) fun x e1 => rb (evsA T r ps e1) fun xs e2 => .ok (x :: xs, e2) := Eq.trans rfl rfl
@[simp] theorem evsA_ref (x : Str) (i : Nat) (p : Pos) (r : Es) (t : Ty) (ps : List Sl) : evsA T (.cons (.var x i p) r) (.ref t :: ps) e = rb (evsA T r ps e) fun xs e2 => .ok (e2.getD i .none :: xs, e2) := Eq.trans rfl rfl
@[simp] theorem evAnd_one (a : E) : evAnd T (.cons a .nil) e = ev T a e := Eq.trans rfl rfl
@[simp] theorem evAnd_cons (a b : E) (r : Es) : evAnd T (.cons a (.cons b r)) e = rb (ev T a e) fun x e1 => (match x with | .bool true => evAnd T (.cons b r) | .bool false => mp (.bool false) | _ => fun _ => .err) e1 := Eq.trans rfl rfl
@[simp] theorem evOr_one (a : E) : evOr T (.cons a .nil) e = ev T a e := Eq.trans rfl rfl
@[simp] theorem evOr_cons (a b : E) (r : Es) : evOr T (.cons a (.cons b r)) e = rb (ev T a e) fun x e1 => (match x with | .bool false => evOr T (.cons b r) | .bool true => mp (.bool true) | _ => fun _ => .err) e1 := Eq.trans rfl rfl
@[simp] theorem evo_none : evo T .none e = .ok (none, e) := Eq.trans rfl rfl
@[simp] theorem evo_some (a : E) : evo T (.some a) e = rb (ev T a e) fun x e1 => mo (intO x) e1 := Eq.trans rfl rfl
@[simp] theorem tst_and (es : Es) (p : Pos) : tst T (.and es p) e = tsAnd T es e := Eq.trans rfl rfl
@[simp] theorem tst_or (es : Es) (p : Pos) : tst T (.or es p) e = tsOr T es e := Eq.trans rfl rfl
@[simp] theorem tst_not (a : E) (p : Pos) : tst T (.not a p) e = rb (tst T a e) fun k e1 => .ok (!k, e1) := Eq.trans rfl rfl
@[simp] theorem tst_cmp (o : CmpOp) (a b : E) (p : Pos) : tst T (.cmp o a b p) e = rb (ev T a e) fun x e1 => rb (ev T b e1) fun y e2 => mo (opC o x y) e2 := Eq.trans rfl rfl
@[simp] theorem tst_cmp2 (o o' : CmpOp) (a b c : E) (p : Pos) : tst T (.cmp2 o o' a b c p) e = rb (ev T a e) fun x e1 => rb (ev T b e1) fun y e2 => rb (mo (opC o x y) e2) fun k e3 => (match k with | true => mb (ev T c) (fun z => mo (opC o' y z)) | false => mp false : M Bool) e3 := Eq.trans rfl rfl
@[simp] theorem tst_var (x : Str) (i : Nat) (p : Pos) : tst T (.var x i p) e = mo (truD (e.getD i .none)) e := Eq.trans rfl rfl
@[simp] theorem tst_isi (a : E) (c : Ic) (q q2 p : Pos) : tst T (.isi a c q q2 p) e = rb (ev T a e) fun x e1 => .ok (isiD x c, e1) := Eq.trans rfl rfl
@[simp] theorem tst_b1 (f : B1) (a : E) (q p : Pos) : tst T (.b1 f a q p) e = rb (ev T a e) fun x e1 => mo ((apB1 f x).bind truD) e1 := Eq.trans rfl rfl
theorem tst_calls (j : Nat) (x : Str) (es : Es) (q p : Pos) : tst T (.call j x es q p) e = rb (ev T (.call j x es q p) e) fun x e1 => mo (truD x) e1 := rfl
@[simp] theorem tsAnd_one (a : E) : tsAnd T (.cons a .nil) e = tst T a e := Eq.trans rfl rfl
@[simp] theorem tsAnd_cons (a b : E) (r : Es) : tsAnd T (.cons a (.cons b r)) e = rb (tst T a e) fun k e1 => (match k with | true => tsAnd T (.cons b r) | false => mp false) e1 := Eq.trans rfl rfl
@[simp] theorem tsOr_one (a : E) : tsOr T (.cons a .nil) e = tst T a e := Eq.trans rfl rfl
@[simp] theorem tsOr_cons (a b : E) (r : Es) : tsOr T (.cons a (.cons b r)) e = rb (tst T a e) fun k e1 => (match k with | true => mp true | false => tsOr T (.cons b r)) e1 := Eq.trans rfl rfl
@[simp] theorem cnd_none : cnd T .none e = .ok (true, e) := Eq.trans rfl rfl
@[simp] theorem cnd_some (c : E) : cnd T (.some c) e = tst T c e := Eq.trans rfl rfl
@[simp] theorem itr_of (a : E) : itr T (.of a) e = rb (ev T a e) fun x e1 => mo (seqOf x) e1 := Eq.trans rfl rfl
@[simp] theorem itr_rng (es : Es) (q p : Pos) : itr T (.rng es q p) e = rb (evs T es e) fun xs e1 => mo (rangeOf xs) e1 := Eq.trans rfl rfl
@[simp] theorem itr_enu (a : E) (q p : Pos) : itr T (.enu a q p) e = rb (ev T a e) fun x e1 => mo (enumD x) e1 := Eq.trans rfl rfl
@[simp] theorem itr_zip (a b : E) (q p : Pos) : itr T (.zip a b q p) e = rb (ev T a e) fun x e1 => rb (ev T b e1) fun y e2 => mo (zipD x y) e2 := Eq.trans rfl rfl
@[simp] theorem bnd_nm (x : Str) (i : Nat) (p : Pos) (d : Dt) : bnd T (.nm x i p) d e = .ok ((), e.set i d) := Eq.trans rfl rfl
@[simp] theorem bnd_tp (ts : Tgs) (p : Pos) (d : Dt) : bnd T (.tp ts p) d e = rb (mo (tupOf d) e) fun xs e1 => bnds T ts xs e1 := Eq.trans rfl rfl
@[simp] theorem bnd_at (b : Pt) (d : Dt) : bnd T (.at b) d e = rb (pth T b e) fun ks e => (match ks.2 with
      | [] => .err
      | _ :: _ =>
        (match updAt (fun _ => some ((), d)) ks.2 (e.getD ks.1 .none) with
         | some (_, d') => .ok ((), e.set ks.1 d')
         | none => .err)) := Eq.trans rfl rfl
@[simp] theorem bnds_nil : bnds T .nil [] e = .ok ((), e) := Eq.trans rfl rfl
@[simp] theorem bnds_cons (t : Tg) (r : Tgs) (x : Dt) (xs : List Dt) : bnds T (.cons t r) (x :: xs) e = rb (bnd T t x e) fun _ e1 => bnds T r xs e1 := Eq.trans rfl rfl
@[simp] theorem pth_nm (x : Str) (i : Nat) (p : Pos) : pth T (.nm x i p) e = .ok ((i, []), e) := Eq.trans rfl rfl
@[simp] theorem pth_ix (b : Pt) (i : E) (p : Pos) : pth T (.ix b i p) e = rb (pth T b e) fun ks e1 => rb (ev T i e1) fun k e2 => (match getAt (ks.2 ++ [k]) (e2.getD ks.1 .none) with
      | some _ => .ok ((ks.1, ks.2 ++ [k]), e2)
      | none => .err) := Eq.trans rfl rfl
@[simp] theorem ev_mut (m : Mth) (b : Pt) (es : Es) (q p : Pos) : ev T (.mut m b es q p) e = rb (pth T b e) fun ks e1 => rb (evs T es e1) fun xs e2 => (match updAt (fun d => apMth m d xs) ks.2 (e2.getD ks.1 .none) with
      | some (r, d) => .ok (r, e2.set ks.1 d)
      | none => .err) := Eq.trans rfl rfl
@[simp] theorem ex_set (x : Str) (i : Nat) (a : E) (q p : Pos) : ex T (.set x i a q p) e = rb (ev T a e) fun x e1 => .ok (.nx, e1.set i x) := Eq.trans rfl rfl
@[simp] theorem ex_setT (tg : Tg) (a : E) (p : Pos) : ex T (.setT tg a p) e = rb (ev T a e) fun x e1 => rb (bnd T tg x e1) fun _ e2 => .ok (.nx, e2) := Eq.trans rfl rfl
@[simp] theorem ex_setP (tg : Tgs) (es : Es) (q q2 p : Pos) : ex T (.setP tg es q q2 p) e = rb (evs T es e) fun xs e1 => rb (bnds T tg xs e1) fun _ e2 => .ok (.nx, e2) := Eq.trans rfl rfl
@[simp] theorem ex_ret (a : E) (p : Pos) : ex T (.ret a p) e = rb (ev T a e) fun x e1 => .ok (.rt x, e1) := Eq.trans rfl rfl
@[simp] theorem ex_exp (a : E) (p : Pos) : ex T (.exp a p) e = rb (ev T a e) fun _ e1 => .ok (.nx, e1) := Eq.trans rfl rfl
@[simp] theorem ex_ife (c : E) (a b : Ss) (p : Pos) : ex T (.ife c a b p) e = rb (tst T c e) fun k e1 => (match k with | true => exs T a | false => exs T b) e1 := Eq.trans rfl rfl
@[simp] theorem ex_whl (c : E) (b : Ss) (p : Pos) : ex T (.whl c b p) e = whlLoop (tst T c) (exs T b) whlFuel e := Eq.trans rfl rfl
@[simp] theorem ex_for_nm (x : Str) (i : Nat) (q : Pos) (it : It) (b : Ss) (p : Pos) : ex T (.for (.nm x i q) it b p) e = rb (itr T it e) fun xs e1 => forLoop (fun x e => exs T b (e.set i x)) xs e1 := Eq.trans rfl rfl
@[simp] theorem ex_for_tp (ts : Tgs) (q : Pos) (it : It) (b : Ss) (p : Pos) : ex T (.for (.tp ts q) it b p) e = rb (itr T it e) fun xs e1 => forLoop (fun x e => rb (rb (mo (tupOf x) e) fun ys e2 => bnds T ts ys e2) fun _ e3 => exs T b e3) xs e1 := Eq.trans rfl rfl
theorem ex_for (tg : Tg) (it : It) (b : Ss) (p : Pos) : ex T (.for tg it b p) e = rb (itr T it e) fun xs e1 => forLoop (fun x => mb (bnd T tg x) fun _ => exs T b) xs e1 := Eq.trans rfl rfl
@[simp] theorem ex_rai (c : Str) (q q2 p : Pos) : ex T (.rai c q q2 p) e = .exc c [] := Eq.trans rfl rfl
@[simp] theorem ex_brk (p : Pos) : ex T (.brk p) e = .ok (.br, e) := Eq.trans rfl rfl
@[simp] theorem ex_cnt (p : Pos) : ex T (.cnt p) e = .ok (.ct, e) := Eq.trans rfl rfl
@[simp] theorem ex_pas (p : Pos) : ex T (.pas p) e = .ok (.nx, e) := Eq.trans rfl rfl
@[simp] theorem ex_frz (i : Nat) : ex T (.frz i) e = .ok (.nx, e) := Eq.trans rfl rfl
@[simp] theorem ex_drop (i : Nat) : ex T (.drop i) e = .ok (.nx, e) := Eq.trans rfl rfl
@[simp] theorem exs_nil : exs T .nil e = .ok (.nx, e) := Eq.trans rfl rfl
@[simp] theorem exs_cons (a : S) (r : Ss) : exs T (.cons a r) e = rb (ex T a e) fun f e1 => (match f with | .nx => exs T r | g => mp g) e1 := Eq.trans rfl rfl
end
/-! ### a def's value -/
/-- called so, it gives this -/
def Gv (F : Fn) (ds : List Dt) (d : Dt) : Prop := ∃ outs, F.sem ds = .ok (d, outs)
/-- called so, it raises this -/
def Rs (F : Fn) (ds : List Dt) (c : Str) (ys : List Dt) : Prop := F.sem ds = .exc c ys
theorem run_gv {T : List Fn} {n m : Nat} {b : Ss} {ds : List Dt} {d : Dt} {e' : Ev} {nm : Str} {ps : List Sl} {rt : Ty} {lv : Nat} (hl : ds.length = m) (h : exs T b (ds ++ List.replicate (n - m) .none) = .ok (.rt d, e')) : Gv ⟨nm, ps, rt, lv, run T n m b⟩ ds d := by
  refine ⟨e'.take m, ?_⟩
  show run T n m b ds = _
  unfold run
  rw [if_pos hl, h]
def isRef : Sl → Bool
  | .ref _ => true
  | _ => false
theorem outs_none : ∀ (ps : List Sl) (es : Es) (k : Nat), ps.any isRef = false → outSlots ps es k = []
  | [], es, k, _ => by cases es <;> rfl
  | p :: ps, .nil, k, _ => by cases p <;> rfl
  | p :: ps, .cons a r, k, h => by
    simp only [List.any_cons, Bool.or_eq_false_iff] at h
    have ih := outs_none ps r (k + 1) h.2
    cases p with
    | ref t => simp [isRef] at h
    | no => exact ih
    | own t => exact ih
    | bor t => exact ih
/-- a call of a def that changes none of its arguments -/
theorem ev_gv {T : List Fn} {e e1 : Ev} {j : Nat} {x : Str} {es : Es} {q p : Pos} {F : Fn} {xs : List Dt} {d : Dt} (h : T[j]? = some F) (hr : F.ps.any isRef = false) (ha : evsA T es F.ps e = .ok (xs, e1)) (g : Gv F xs d) : ev T (.call j x es q p) e = .ok (d, e1) := by
  obtain ⟨outs, g⟩ := g
  rw [ev_call T e j x es q p h, ha, rb_ok, g, outs_none _ _ _ hr]
  rfl
theorem ev_rs {T : List Fn} {e e1 : Ev} {j : Nat} {x : Str} {es : Es} {q p : Pos} {F : Fn} {xs : List Dt} {c : Str} {ys : List Dt} (h : T[j]? = some F) (ha : evsA T es F.ps e = .ok (xs, e1)) (g : Rs F xs c ys) : ev T (.call j x es q p) e = .exc c ys := by
  rw [ev_call T e j x es q p h, ha, rb_ok, g]
end VL


set_option Elab.async false
set_option linter.all false
set_option maxRecDepth 100000
/-! VL41: loops, comprehensions, ints, for plain reckoning. -/
namespace VL
open PySem
theorem for_inv {f : Dt → M Fl} (I : Nat → Ev → Prop) : ∀ {xs : List Dt} {k : Nat} {e : Ev}, I k e → (∀ i x e, xs[i]? = some x → I (k + i) e → ∃ e', f x e = .ok (.nx, e') ∧ I (k + i + 1) e') → ∃ e', forLoop f xs e = .ok (.nx, e') ∧ I (k + xs.length) e'
  | [], k, e, h0, _ => ⟨e, rfl, h0⟩
  | x :: xs, k, e, h0, hs => by
    obtain ⟨e1, h1, i1⟩ := hs 0 x e rfl h0
    obtain ⟨e2, h2, i2⟩ := for_inv I (xs := xs) (k := k + 1) (e := e1) i1 fun i y e' hy hi => by
      have z := hs (i + 1) y e' (by simpa using hy)
      rw [show k + (i + 1) = k + 1 + i by omega] at z
      exact z hi
    refine ⟨e2, ?_, by rw [List.length_cons, show k + (xs.length + 1) = k + 1 + xs.length by omega]; exact i2⟩
    unfold forLoop
    rw [h1]
    exact h2
theorem for_all {f : Dt → M Fl} (I : Nat → Ev → Prop) {xs : List Dt} {e : Ev} (h0 : I 0 e) (hs : ∀ i x e, xs[i]? = some x → I i e → ∃ e', f x e = .ok (.nx, e') ∧ I (i + 1) e') : ∃ e', forLoop f xs e = .ok (.nx, e') ∧ I xs.length e' := by
  have z := for_inv I (xs := xs) (k := 0) h0 fun i x e hx hi => by
    rw [Nat.zero_add] at hi ⊢
    exact hs i x e hx hi
  rw [Nat.zero_add] at z
  exact z
theorem whl_inv {c : M Bool} {f : M Fl} (I : Nat → Ev → Prop) : ∀ {k n : Nat} {e : Ev}, I k e → k < n → (∀ j e, I (j + 1) e → ∃ e1 e2, c e = .ok (true, e1) ∧ f e1 = .ok (.nx, e2) ∧ I j e2) → (∀ e, I 0 e → ∃ e1, c e = .ok (false, e1) ∧ I 0 e1) → ∃ e', whlLoop c f n e = .ok (.nx, e') ∧ I 0 e'
  | 0, 0, e, _, hk, _, _ => absurd hk (Nat.lt_irrefl _)
  | 0, n + 1, e, h0, _, _, hd => by
    obtain ⟨e1, h1, i1⟩ := hd e h0
    exact ⟨e1, by unfold whlLoop; rw [h1], i1⟩
  | k + 1, 0, e, _, hk, _, _ => absurd hk (Nat.not_lt_zero _)
  | k + 1, n + 1, e, h0, hk, hs, hd => by
    obtain ⟨e1, e2, h1, h2, i2⟩ := hs k e h0
    obtain ⟨e3, h3, i3⟩ := whl_inv I (n := n) i2 (by omega) hs hd
    refine ⟨e3, ?_, i3⟩
    unfold whlLoop
    rw [h1]
    simp only [h2]
    exact h3
theorem agr_one {i : Nat} {e e' : Ev} (h : Agr [i] e e') : e' = e.set i (e'.getD i .none) := by
  refine ev_ext (by rw [List.length_set]; exact h.1) fun j => ?_
  by_cases hj : j = i
  · subst hj
    by_cases hl : j < e.length
    · rw [setE_same hl]
    · rw [List.getD_eq_getElem?_getD, List.getElem?_eq_none (by rw [h.1]; omega), List.getD_eq_getElem?_getD, List.getElem?_eq_none (by rw [List.length_set]; omega)]
  · rw [setE_ne hj]
    exact h.2 j (by simpa using hj)
theorem agr_set {i : Nat} {e : Ev} {x : Dt} : Agr [i] e (e.set i x) := Agr.set Agr.refl (by simp)
/-- a comprehension over one name -/
theorem lc1 {T : List Fn} {nm : Str} {i : Nat} {p0 p : Pos} {it : It} {c : Oe} {a : E} {sc : Scope} {xs : List Dt} {e : Ev} (o : Dt → Option Dt) (hi : itr T it e = .ok (xs, e)) (hz : xs.length ≤ sizeLine)
    (h : ∀ x ∈ xs, (rb (cnd T c (e.set i x)) fun k e2 => (match k with | true => rb (ev T a e2) fun y e3 => .ok (some y, e3) | false => .ok (none, e2) : R (Option Dt × Ev))) = .ok (o x, e.set i x)) : ev T (.lc (.nm nm i p0) it c a [(nm, i)] sc p) e = .ok (.list (xs.filterMap o), e) := by
  refine lc_val (o := o) hi hz fun x hx e' ag => ?_
  refine ⟨e.set i x, ?_, agr_set⟩
  show rb (.ok ((), e'.set i x)) (fun _ e1 => rb (cnd T c e1) fun k e2 => (match k with | true => mb (ev T a) fun y => mp (some y) | false => mp none : M (Option Dt)) e2) = _
  rw [rb_ok, agr_one ag, List.set_set, ← h x hx]
  congr 1
  funext k e2
  cases k <;> rfl
/-- a comprehension without a test -/
theorem lc0 {T : List Fn} {nm : Str} {i : Nat} {p0 p : Pos} {it : It} {a : E} {sc : Scope} {xs : List Dt} {e : Ev} (o : Dt → Dt) (hi : itr T it e = .ok (xs, e)) (hz : xs.length ≤ sizeLine) (h : ∀ x ∈ xs, ev T a (e.set i x) = .ok (o x, e.set i x)) :
    ev T (.lc (.nm nm i p0) it .none a [(nm, i)] sc p) e = .ok (.list (xs.map o), e) := by
  rw [lc1 (fun x => some (o x)) hi hz fun x hx => by simp [h x hx]]
  rw [List.filterMap_eq_map']
theorem dcLoop_val {f : Dt → M (Dt × Dt)} {kf vf : Dt → Dt} {vs : List Nat} {e0 : Ev} : ∀ {xs : List Dt} {kvs : List (Dt × Dt)} {e : Ev}, Agr vs e0 e → (∀ x ∈ xs, ∀ e', Agr vs e0 e' → ∃ e'', f x e' = .ok ((kf x, vf x), e'') ∧ Agr vs e0 e'') →
    ∃ e', dcLoop f xs kvs e = .ok (xs.foldl (fun l x => putD (kf x) (vf x) l) kvs, e') ∧ Agr vs e0 e'
  | [], kvs, e, a, _ => ⟨e, rfl, a⟩
  | x :: xs, kvs, e, a, h => by
    obtain ⟨e1, h1, a1⟩ := h x List.mem_cons_self e a
    obtain ⟨e2, h2, a2⟩ := dcLoop_val (xs := xs) (kvs := putD (kf x) (vf x) kvs) a1 fun y hy => h y (List.mem_cons_of_mem _ hy)
    refine ⟨e2, ?_, a2⟩
    unfold dcLoop
    rw [h1]
    exact h2
theorem dc1 {T : List Fn} {nm : Str} {i : Nat} {p0 p : Pos} {it : It} {k v : E} {sc : Scope} {xs : List Dt} {e : Ev} (kf vf : Dt → Dt) (hi : itr T it e = .ok (xs, e)) (hz : xs.length ≤ sizeLine)
    (h : ∀ x ∈ xs, ev T k (e.set i x) = .ok (kf x, e.set i x) ∧ ev T v (e.set i x) = .ok (vf x, e.set i x) ∧ (keyD (kf x) || keyT (kf x)) = true) (hk : kindB (xs.foldl (fun l x => putD (kf x) (vf x) l) []) = true) : ev T (.dc (.nm nm i p0) it k v [(nm, i)] sc p) e = .ok (.dict (xs.foldl (fun l x => putD (kf x) (vf x) l) []), e) := by
  obtain ⟨e1, h1, a1⟩ := dcLoop_val (f := fun x => mb (bnd T (.nm nm i p0) x) fun _ => mb (ev T k) fun y => mb (ev T v) fun z => mo (if (keyD y || keyT y) = true then some (y, z) else none)) (kf := kf) (vf := vf) (vs := [i]) (e0 := e) (xs := xs) (kvs := []) Agr.refl fun x hx e' ag => by
    refine ⟨e.set i x, ?_, agr_set⟩
    obtain ⟨q1, q2, q3⟩ := h x hx
    show rb (.ok ((), e'.set i x)) (fun _ e1 => rb (ev T k e1) fun y e2 => rb (ev T v e2) fun z e3 => mo (if (keyD y || keyT y) = true then some (y, z) else none) e3) = _
    rw [rb_ok, agr_one ag, List.set_set, q1, rb_ok, q2, rb_ok, if_pos q3]
    rfl
  show mb (itr T it) (fun xs => fun e => noExc (match (if xs.length ≤ sizeLine then dcLoop (fun x => mb (bnd T (.nm nm i p0) x) fun _ => mb (ev T k) fun y => mb (ev T v) fun z => mo (if (keyD y || keyT y) = true then some (y, z) else none)) xs [] e else .err) with
       | .ok (kvs, e') => if kindB kvs = true then .ok (PyData.dict kvs, giveBack e [i] e') else .err
       | .exc c ys => .exc c ys
       | .err => .err)) e = _
  unfold mb
  rw [hi]
  simp only [hz, if_true]
  unfold mb at h1
  rw [h1]
  simp only [giveBack_agr a1, hk, if_true]
  rfl
/-! ### ints -/
def di (n : Nat) : Dt := .int (n : Int)
theorem shaped_int (i : Int) : SeqAt.shaped (.int i) = true := rfl
theorem lay_ints : ∀ (xs : List Int), PyData.canLayAll0 (xs.map .int) = true
  | [] => rfl
  | x :: xs => by simp [PyData.canLayAll0, PyData.canLay0, lay_ints xs]
theorem dep_ints : ∀ (xs : List Int), PyData.depthAll (xs.map .int) = 0
  | [] => rfl
  | x :: xs => by simp [PyData.depthAll, PyData.depth, dep_ints xs]
theorem shaped_ints (xs : List Int) : SeqAt.shaped (.list (xs.map .int)) = true := by
  simp [SeqAt.shaped, PyData.canLay0, PyData.depth, lay_ints, dep_ints]
theorem shaped_tints (xs : List Int) : SeqAt.shaped (.tuple (xs.map .int)) = true := by
  simp [SeqAt.shaped, PyData.canLay0, PyData.depth, lay_ints, dep_ints]
theorem eqv_int (i j : Int) : PyData.eqv (.int i) (.int j) = decide (i = j) := by
  simp only [PyData.eqv]
  by_cases h : i = j
  · subst h; simp
  · simp [h]
theorem inD_ints (k : Int) (xs : List Int) : inD (.int k) (xs.map .int) = some (decide (k ∈ xs)) := by
  unfold inD
  rw [if_pos ⟨shaped_int k, shaped_ints xs⟩]
  congr 1
  rw [List.any_map]
  induction xs with
  | nil => rfl
  | cons x xs ih =>
    simp only [List.any_cons, Function.comp, eqv_int, ih]
    by_cases h : x = k
    · subst h; simp
    · have h' : ¬ k = x := fun z => h z.symm
      simp [h, h']
end VL


set_option Elab.async false
set_option linter.all false
set_option maxRecDepth 100000
/-! VL42: calls, for plain reckoning. -/
namespace VL
open PySem
/-- what a call gives, where no argument changes -/
def vof (F : Fn) (xs : List Dt) (e : Ev) : R (Dt × Ev) := match F.sem xs with
  | .ok (d, _) => .ok (d, e)
  | .exc c ys => .exc c ys
  | .err => .err
def vofR (F : Fn) (ps : List Sl) (es : Es) (xs : List Dt) (e : Ev) : R (Dt × Ev) := match F.sem xs with
  | .ok (d, outs) => .ok (d, setOuts outs (outSlots ps es 0) e)
  | .exc c ys => .exc c ys
  | .err => .err
theorem ev_cc {T : List Fn} {e : Ev} {j : Nat} {x : Str} {es : Es} {q p : Pos} {F : Fn} (h : T[j]? = some F) (hr : F.ps.any isRef = false) : ev T (.call j x es q p) e = rb (evsA T es F.ps e) fun xs e1 => vof F xs e1 := by
  rw [ev_call T e j x es q p h]
  congr 1
  funext xs e1
  unfold vof
  rw [outs_none _ _ _ hr]
  cases F.sem xs with
  | ok r => obtain ⟨d, o⟩ := r; rfl
  | exc c ys => rfl
  | err => rfl
theorem ev_cR {T : List Fn} {e : Ev} {j : Nat} {x : Str} {es : Es} {q p : Pos} {F : Fn} (h : T[j]? = some F) : ev T (.call j x es q p) e = rb (evsA T es F.ps e) fun xs e1 => vofR F F.ps es xs e1 := ev_call T e j x es q p h
theorem vof_gv {F : Fn} {xs : List Dt} {d : Dt} {e : Ev} (h : Gv F xs d) : vof F xs e = .ok (d, e) := by
  obtain ⟨o, h⟩ := h
  unfold vof
  rw [h]
theorem vof_rs {F : Fn} {xs : List Dt} {c : Str} {ys : List Dt} {e : Ev} (h : Rs F xs c ys) : vof F xs e = .exc c ys := by
  unfold vof
  rw [h]
theorem vofR_of {F : Fn} {ps : List Sl} {es : Es} {xs outs : List Dt} {d : Dt} {e : Ev} (h : F.sem xs = .ok (d, outs)) : vofR F ps es xs e = .ok (d, setOuts outs (outSlots ps es 0) e) := by
  unfold vofR
  rw [h]
@[simp] theorem tst_call' (T : List Fn) (e : Ev) (j : Nat) (x : Str) (es : Es) (q p : Pos) : tst T (.call j x es q p) e = rb (ev T (.call j x es q p) e) fun x e1 => mo (truD x) e1 := Eq.trans rfl rfl
@[simp] theorem outs_ref (t : Ty) (ps : List Sl) (x : Str) (i : Nat) (p : Pos) (r : Es) (k : Nat) : outSlots (.ref t :: ps) (.cons (.var x i p) r) k = (i, k) :: outSlots ps r (k + 1) := Eq.trans rfl rfl
@[simp] theorem outs_own (t : Ty) (ps : List Sl) (a : E) (r : Es) (k : Nat) : outSlots (.own t :: ps) (.cons a r) k = outSlots ps r (k + 1) := Eq.trans rfl rfl
@[simp] theorem outs_nil (ps : List Sl) (k : Nat) : outSlots ps .nil k = [] := by
  cases ps with
  | nil => rfl
  | cons p r => cases p <;> rfl
@[simp] theorem sto_nil (outs : List Dt) (e : Ev) : setOuts outs [] e = e := Eq.trans rfl rfl
@[simp] theorem sto_cons (outs : List Dt) (i k : Nat) (r : List (Nat × Nat)) (e : Ev) : setOuts outs ((i, k) :: r) e = setOuts outs r (e.set i (outs.getD k .none)) := Eq.trans rfl rfl
theorem run_out {T : List Fn} {n m : Nat} {b : Ss} {ds : List Dt} {d : Dt} {e' : Ev} {nm : Str} {ps : List Sl} {rt : Ty} {lv : Nat} (hl : ds.length = m) (h : exs T b (ds ++ List.replicate (n - m) .none) = .ok (.rt d, e')) : Fn.sem ⟨nm, ps, rt, lv, run T n m b⟩ ds = .ok (d, e'.take m) := by
  show run T n m b ds = _
  unfold run
  rw [if_pos hl, h]
@[simp] theorem tru_b (b : Bool) : truD (.bool b) = some b := rfl
@[simp] theorem chk_i (i : Int) : chkT .sh (.int i) = some (.int i) := rfl
@[simp] theorem chk_t (ds : List Dt) : chkT .sh (.tuple ds) = some (.tuple ds) := rfl
@[simp] theorem len_l (ds : List Dt) : apB1 .len (.list ds) = some (.int ds.length) := rfl
@[simp] theorem len_t (ds : List Dt) : apB1 .len (.tuple ds) = some (.int ds.length) := rfl
@[simp] theorem len_d (ds : List (Dt × Dt)) : apB1 .len (.dict ds) = some (.int ds.length) := rfl
@[simp] theorem seq_l (ds : List Dt) : seqOf (.list ds) = some ds := rfl
@[simp] theorem seq_t (ds : List Dt) : seqOf (.tuple ds) = some ds := rfl
@[simp] theorem add_i (i j : Int) : opB .Add (.int i) (.int j) = some (.int (i + j)) := rfl
@[simp] theorem sub_i (i j : Int) : opB .Sub (.int i) (.int j) = some (.int (i - j)) := rfl
@[simp] theorem int_i (i : Int) : apB1 .int (.int i) = some (.int i) := rfl
/-- a body that runs to its end -/
theorem run_end {T : List Fn} {n m : Nat} {b : Ss} {ds : List Dt} {e' : Ev} {nm : Str} {ps : List Sl} {rt : Ty} {lv : Nat} (hl : ds.length = m) (h : exs T b (ds ++ List.replicate (n - m) .none) = .ok (.nx, e')) : Gv ⟨nm, ps, rt, lv, run T n m b⟩ ds .none := by
  refine ⟨e'.take m, ?_⟩
  show run T n m b ds = _
  unfold run
  rw [if_pos hl, h]
theorem run_rs {T : List Fn} {n m : Nat} {b : Ss} {ds : List Dt} {c : Str} {ys : List Dt} {nm : Str} {ps : List Sl} {rt : Ty} {lv : Nat} (hl : ds.length = m) (h : exs T b (ds ++ List.replicate (n - m) .none) = .exc c ys) : Rs ⟨nm, ps, rt, lv, run T n m b⟩ ds c ys := by
  show run T n m b ds = _
  unfold run
  rw [if_pos hl, h]
end VL


set_option Elab.async false
set_option linter.all false
set_option maxRecDepth 100000
/-! VL43: comprehensions whose items are taken apart, for plain reckoning. -/
namespace VL
open PySem
def sets : List (Nat × Dt) → Ev → Ev
  | [], e => e
  | p :: ps, e => sets ps (e.set p.1 p.2)
theorem sets_eq : ∀ {ps : List (Nat × Dt)} {e e' : Ev}, e'.length = e.length → (∀ k, k ∉ ps.map (·.1) → e'.getD k .none = e.getD k .none) → sets ps e' = sets ps e
  | [], e, e', hl, h => ev_ext hl fun k => h k (by simp)
  | p :: ps, e, e', hl, h => by
    refine sets_eq (ps := ps) (by rw [List.length_set, List.length_set]; exact hl) fun k hk => ?_
    by_cases hp : k = p.1
    · subst hp
      by_cases hlt : p.1 < e.length
      · rw [setE_same hlt, setE_same (by omega)]
      · rw [List.getD_eq_getElem?_getD, List.getElem?_eq_none (by rw [List.length_set]; omega), List.getD_eq_getElem?_getD, List.getElem?_eq_none (by rw [List.length_set]; omega)]
    · rw [setE_ne hp, setE_ne hp]
      exact h k (by simp [hp, hk])
theorem sets_agr {ps : List (Nat × Dt)} {vs : List Nat} {e e' : Ev} (hv : ∀ v ∈ vs, v ∈ ps.map (·.1)) (a : Agr vs e e') : sets ps e' = sets ps e := sets_eq a.1 fun k hk => a.2 k fun z => hk (hv k z)
theorem agr_sets {vs : List Nat} : ∀ {ps : List (Nat × Dt)} {e e0 : Ev}, (∀ v ∈ ps.map (·.1), v ∈ vs) → Agr vs e0 e → Agr vs e0 (sets ps e)
  | [], e, e0, _, a => a
  | p :: ps, e, e0, h, a => agr_sets (ps := ps) (fun v hv => h v (List.mem_cons_of_mem _ hv)) (Agr.set a (h p.1 List.mem_cons_self))
/-- a comprehension whose target stores these -/
theorem lcG {T : List Fn} {tg : Tg} {it : It} {c : Oe} {a : E} {own : List (Str × Nat)} {sc : Scope} {p : Pos} {xs : List Dt} {e : Ev} (o : Dt → Option Dt) (ps : Dt → List (Nat × Dt)) (hi : itr T it e = .ok (xs, e)) (hz : xs.length ≤ sizeLine)
    (hb : ∀ x ∈ xs, ∀ e', bnd T tg x e' = .ok ((), sets (ps x) e')) (hp : ∀ x ∈ xs, (ps x).map (·.1) = own.map (·.2))
    (h : ∀ x ∈ xs, (rb (cnd T c (sets (ps x) e)) fun k e2 => (match k with | true => rb (ev T a e2) fun y e3 => .ok (some y, e3) | false => .ok (none, e2) : R (Option Dt × Ev))) = .ok (o x, sets (ps x) e)) : ev T (.lc tg it c a own sc p) e = .ok (.list (xs.filterMap o), e) := by
  refine lc_val (o := o) hi hz fun x hx e' ag => ?_
  refine ⟨sets (ps x) e, ?_, agr_sets (by rw [hp x hx]; exact fun v hv => hv) Agr.refl⟩
  show rb (bnd T tg x e') (fun _ e1 => rb (cnd T c e1) fun k e2 => (match k with | true => mb (ev T a) fun y => mp (some y) | false => mp none : M (Option Dt)) e2) = _
  rw [hb x hx, rb_ok, sets_agr (by rw [hp x hx]; exact fun v hv => hv) ag, ← h x hx]
  congr 1
  funext k e2
  cases k <;> rfl
theorem lcG0 {T : List Fn} {tg : Tg} {it : It} {a : E} {own : List (Str × Nat)} {sc : Scope} {p : Pos} {xs : List Dt} {e : Ev} (o : Dt → Dt) (ps : Dt → List (Nat × Dt)) (hi : itr T it e = .ok (xs, e)) (hz : xs.length ≤ sizeLine)
    (hb : ∀ x ∈ xs, ∀ e', bnd T tg x e' = .ok ((), sets (ps x) e')) (hp : ∀ x ∈ xs, (ps x).map (·.1) = own.map (·.2))
    (h : ∀ x ∈ xs, ev T a (sets (ps x) e) = .ok (o x, sets (ps x) e)) : ev T (.lc tg it .none a own sc p) e = .ok (.list (xs.map o), e) := by
  rw [lcG (fun x => some (o x)) ps hi hz hb hp fun x hx => by simp [h x hx]]
  rw [List.filterMap_eq_map']
/-- the items of a pair, of a triple -/
def ps2 (i j : Nat) : Dt → List (Nat × Dt)
  | .tuple [a, b] => [(i, a), (j, b)]
  | _ => [(i, .none), (j, .none)]
def ps3 (i j k : Nat) : Dt → List (Nat × Dt)
  | .tuple [a, b, c] => [(i, a), (j, b), (k, c)]
  | _ => [(i, .none), (j, .none), (k, .none)]
theorem ps2_fst {i j : Nat} (x : Dt) : (ps2 i j x).map (·.1) = [i, j] := by unfold ps2; split <;> rfl
theorem ps3_fst {i j k : Nat} (x : Dt) : (ps3 i j k x).map (·.1) = [i, j, k] := by unfold ps3; split <;> rfl
theorem bnd2 {T : List Fn} {x y : Str} {i j : Nat} {p q r : Pos} {a b : Dt} {e : Ev} : bnd T (.tp (.cons (.nm x i p) (.cons (.nm y j q) .nil)) r) (.tuple [a, b]) e = .ok ((), sets (ps2 i j (.tuple [a, b])) e) := Eq.trans rfl rfl
theorem bnd3 {T : List Fn} {x y z : Str} {i j k : Nat} {p q r s : Pos} {a b c : Dt} {e : Ev} : bnd T (.tp (.cons (.nm x i p) (.cons (.nm y j q) (.cons (.nm z k s) .nil))) r) (.tuple [a, b, c]) e = .ok ((), sets (ps3 i j k (.tuple [a, b, c])) e) := Eq.trans rfl rfl
@[simp] theorem sets_nil (e : Ev) : sets [] e = e := rfl
@[simp] theorem sets_cons (p : Nat × Dt) (ps : List (Nat × Dt)) (e : Ev) : sets (p :: ps) e = sets ps (e.set p.1 p.2) := rfl
@[simp] theorem ps2_t (i j : Nat) (a b : Dt) : ps2 i j (.tuple [a, b]) = [(i, a), (j, b)] := rfl
@[simp] theorem ps3_t (i j k : Nat) (a b c : Dt) : ps3 i j k (.tuple [a, b, c]) = [(i, a), (j, b), (k, c)] := rfl
theorem dcG {T : List Fn} {tg : Tg} {it : It} {k v : E} {own : List (Str × Nat)} {sc : Scope} {p : Pos} {xs : List Dt} {e : Ev} (kf vf : Dt → Dt) (ps : Dt → List (Nat × Dt)) (hi : itr T it e = .ok (xs, e)) (hz : xs.length ≤ sizeLine)
    (hb : ∀ x ∈ xs, ∀ e', bnd T tg x e' = .ok ((), sets (ps x) e')) (hp : ∀ x ∈ xs, (ps x).map (·.1) = own.map (·.2))
    (h : ∀ x ∈ xs, ev T k (sets (ps x) e) = .ok (kf x, sets (ps x) e) ∧ ev T v (sets (ps x) e) = .ok (vf x, sets (ps x) e) ∧ (keyD (kf x) || keyT (kf x)) = true) (hk : kindB (xs.foldl (fun l x => putD (kf x) (vf x) l) []) = true) :
    ev T (.dc tg it k v own sc p) e = .ok (.dict (xs.foldl (fun l x => putD (kf x) (vf x) l) []), e) := by
  obtain ⟨e1, h1, a1⟩ := dcLoop_val (f := fun x => mb (bnd T tg x) fun _ => mb (ev T k) fun y => mb (ev T v) fun z => mo (if (keyD y || keyT y) = true then some (y, z) else none)) (kf := kf) (vf := vf) (vs := own.map (·.2)) (e0 := e) (xs := xs) (kvs := []) Agr.refl fun x hx e' ag => by
    refine ⟨sets (ps x) e, ?_, agr_sets (by rw [hp x hx]; exact fun v hv => hv) Agr.refl⟩
    obtain ⟨q1, q2, q3⟩ := h x hx
    show rb (bnd T tg x e') (fun _ e1 => rb (ev T k e1) fun y e2 => rb (ev T v e2) fun z e3 => mo (if (keyD y || keyT y) = true then some (y, z) else none) e3) = _
    rw [hb x hx, rb_ok, sets_agr (by rw [hp x hx]; exact fun v hv => hv) ag, q1, rb_ok, q2, rb_ok, if_pos q3]
    rfl
  show mb (itr T it) (fun xs => fun e => noExc (match (if xs.length ≤ sizeLine then dcLoop (fun x => mb (bnd T tg x) fun _ => mb (ev T k) fun y => mb (ev T v) fun z => mo (if (keyD y || keyT y) = true then some (y, z) else none)) xs [] e else .err) with
       | .ok (kvs, e') => if kindB kvs = true then .ok (PyData.dict kvs, giveBack e (own.map (·.2)) e') else .err
       | .exc c ys => .exc c ys
       | .err => .err)) e = _
  unfold mb
  rw [hi]
  simp only [hz, if_true]
  unfold mb at h1
  rw [h1]
  simp only [giveBack_agr a1, hk, if_true]
  rfl
theorem forLoop_congr {f g : Dt → M Fl} : ∀ {xs : List Dt} {e : Ev}, (∀ x ∈ xs, ∀ e, f x e = g x e) → forLoop f xs e = forLoop g xs e
  | [], _, _ => rfl
  | x :: xs, e, h => by
    have ih : ∀ e, forLoop f xs e = forLoop g xs e := fun e => forLoop_congr fun y hy => h y (List.mem_cons_of_mem _ hy)
    unfold forLoop
    rw [h x List.mem_cons_self e]
    simp only [ih]
/-- a loop that takes pairs, triples apart -/
theorem for_tp2 {T : List Fn} {b : Ss} {nx ny : Str} {i j : Nat} {p q : Pos} {xs : List Dt} {e : Ev} (h : ∀ x ∈ xs, ∃ a c, x = .tuple [a, c]) : forLoop (fun x e => rb (rb (mo (tupOf x) e) fun ys e2 => bnds T (.cons (.nm nx i p) (.cons (.nm ny j q) .nil)) ys e2) fun _ e3 => exs T b e3) xs e = forLoop (fun x e => exs T b (sets (ps2 i j x) e)) xs e :=
  forLoop_congr fun x hx e => by obtain ⟨a, c, rfl⟩ := h x hx; exact Eq.trans rfl rfl
theorem for_tp3 {T : List Fn} {b : Ss} {nx ny nz : Str} {i j k : Nat} {p q r : Pos} {xs : List Dt} {e : Ev} (h : ∀ x ∈ xs, ∃ a c d, x = .tuple [a, c, d]) : forLoop (fun x e => rb (rb (mo (tupOf x) e) fun ys e2 => bnds T (.cons (.nm nx i p) (.cons (.nm ny j q) (.cons (.nm nz k r) .nil))) ys e2) fun _ e3 => exs T b e3) xs e = forLoop (fun x e => exs T b (sets (ps3 i j k x) e)) xs e :=
  forLoop_congr fun x hx e => by obtain ⟨a, c, d, rfl⟩ := h x hx; exact Eq.trans rfl rfl
/-- a while loop with something that grows less -/
theorem whl_lt {c : M Bool} {f : M Fl} (I : Nat → Ev → Prop) (Q : Ev → Prop) : ∀ {n k : Nat} {e : Ev}, I k e → k < n → (∀ j e, I j e → (∃ e1, c e = .ok (false, e1) ∧ Q e1) ∨ ∃ e1 e2 j', c e = .ok (true, e1) ∧ f e1 = .ok (.nx, e2) ∧ j' < j ∧ I j' e2) → ∃ e', whlLoop c f n e = .ok (.nx, e') ∧ Q e'
  | 0, k, e, _, hk, _ => absurd hk (Nat.not_lt_zero _)
  | n + 1, k, e, h0, hk, hs => by
    rcases hs k e h0 with ⟨e1, h1, q⟩ | ⟨e1, e2, j', h1, h2, hj, i2⟩
    · exact ⟨e1, by unfold whlLoop; rw [h1], q⟩
    · obtain ⟨e3, h3, q3⟩ := whl_lt I Q (n := n) i2 (by omega) hs
      refine ⟨e3, ?_, q3⟩
      unfold whlLoop
      rw [h1]
      simp only [h2]
      exact h3
end VL


set_option Elab.async false
set_option linter.all false
set_option maxRecDepth 100000
set_option maxHeartbeats 0
namespace VL
open PySem PySem.Spec PyProof.Rows L2
def T_is_integer : List Fn := []
abbrev aET : List Str := ["SquareError", "NoFace", "NoSquare", "TooMany"]
abbrev aE0 : List Str := ["NoFace", "NoSquare"]
abbrev aGT : List (Str × Int) := [("MOST_SIGNS", 6)]
def aFN : Str → List Str := fun y => if y == ("TooMany" : Str) then ["most"] else []
/-! is_integer -/

def b_is_integer : Ss :=
 (.cons (.ret (.and (.cons (.isi (.var "thing" 0 ⟨3, 22, 3, 27⟩) .tInt ⟨3, 11, 3, 21⟩ ⟨3, 29, 3, 32⟩ ⟨3, 11, 3, 33⟩) (.cons (.not (.isi (.var "thing" 0 ⟨3, 54, 3, 59⟩) .tBool ⟨3, 43, 3, 53⟩ ⟨3, 61, 3, 65⟩ ⟨3, 43, 3, 66⟩) ⟨3, 39, 3, 66⟩) .nil)) ⟨3, 11, 3, 67⟩) ⟨3, 4, 3, 67⟩)
 .nil)
def S_is_integer : Stmt := PySem.Challenge.pw_squarehouse_k04_whole_faces_of_squares.main.body.getD 1 (.Pass ⟨0, 0, 0, 0⟩)
def N_is_integer : List Str := ["thing"]
def P_is_integer : List Str := ["thing"]
def F_is_integer : Fn := ⟨"is_integer", [.own .sh], .sh, 1, run T_is_integer 1 1 b_is_integer⟩
def T_is_within : List Fn := T_is_integer ++ [F_is_integer]
theorem e_is_integer : defBody S_is_integer = pySs b_is_integer := by kernel_rfl
abbrev G_is_integer : Sg := ⟨T_is_integer, aGT, N_is_integer, 0, []⟩
theorem c_is_integer : ckDef G_is_integer aE0 (defScope S_is_integer) F_is_integer b_is_integer = true := by decide +kernel
/-! is_within -/

def b_is_within : Ss :=
 (.cons (.ret (.and (.cons (.call 0 "is_integer" (.cons (.var "thing" 0 ⟨5, 22, 5, 27⟩) .nil) ⟨5, 11, 5, 21⟩ ⟨5, 11, 5, 28⟩) (.cons (.cmp2 .LtE .LtE (.var "low" 1 ⟨5, 33, 5, 36⟩) (.var "thing" 0 ⟨5, 40, 5, 45⟩) (.var "high" 2 ⟨5, 49, 5, 53⟩) ⟨5, 33, 5, 53⟩) .nil)) ⟨5, 11, 5, 53⟩) ⟨5, 4, 5, 53⟩)
 .nil)
def S_is_within : Stmt := PySem.Challenge.pw_squarehouse_k04_whole_faces_of_squares.main.body.getD 2 (.Pass ⟨0, 0, 0, 0⟩)
def N_is_within : List Str := ["thing", "low", "high"]
def P_is_within : List Str := ["thing", "low", "high"]
def F_is_within : Fn := ⟨"is_within", [.own .sh, .own .sh, .own .sh], .sh, 2, run T_is_within 3 3 b_is_within⟩
def T_is_sized : List Fn := T_is_within ++ [F_is_within]
theorem e_is_within : defBody S_is_within = pySs b_is_within := by kernel_rfl
abbrev G_is_within : Sg := ⟨T_is_within, aGT, N_is_within, 1, []⟩
theorem c_is_within : ckDef G_is_within aE0 (defScope S_is_within) F_is_within b_is_within = true := by decide +kernel
/-! is_sized -/

def b_is_sized : Ss :=
 (.cons (.ret (.and (.cons (.isi (.var "thing" 0 ⟨7, 22, 7, 27⟩) .tTuple ⟨7, 11, 7, 21⟩ ⟨7, 29, 7, 34⟩ ⟨7, 11, 7, 35⟩) (.cons (.cmp2 .LtE .LtE (.var "low" 1 ⟨7, 40, 7, 43⟩) (.b1 .len (.var "thing" 0 ⟨7, 51, 7, 56⟩) ⟨7, 47, 7, 50⟩ ⟨7, 47, 7, 57⟩) (.var "high" 2 ⟨7, 61, 7, 65⟩) ⟨7, 40, 7, 65⟩) .nil)) ⟨7, 11, 7, 65⟩) ⟨7, 4, 7, 65⟩)
 .nil)
def S_is_sized : Stmt := PySem.Challenge.pw_squarehouse_k04_whole_faces_of_squares.main.body.getD 3 (.Pass ⟨0, 0, 0, 0⟩)
def N_is_sized : List Str := ["thing", "low", "high"]
def P_is_sized : List Str := ["thing", "low", "high"]
def F_is_sized : Fn := ⟨"is_sized", [.own .sh, .own .sh, .own .sh], .sh, 1, run T_is_sized 3 3 b_is_sized⟩
def T_are_all : List Fn := T_is_sized ++ [F_is_sized]
theorem e_is_sized : defBody S_is_sized = pySs b_is_sized := by kernel_rfl
abbrev G_is_sized : Sg := ⟨T_is_sized, aGT, N_is_sized, 0, []⟩
theorem c_is_sized : ckDef G_is_sized aE0 (defScope S_is_sized) F_is_sized b_is_sized = true := by decide +kernel
/-! are_all -/
def b_are_all_1 : E :=
 (.lc (.nm "one" 2 ⟨9, 83, 9, 86⟩) (.of (.var "thing" 0 ⟨9, 90, 9, 95⟩)) .none (.call 1 "is_within" (.cons (.var "one" 2 ⟨9, 61, 9, 64⟩) (.cons (.int 0 ⟨9, 66, 9, 67⟩) (.cons (.bop .sh .Sub (.var "many" 1 ⟨9, 69, 9, 73⟩) (.int 1 ⟨9, 76, 9, 77⟩) ⟨9, 69, 9, 77⟩) .nil))) ⟨9, 51, 9, 60⟩ ⟨9, 51, 9, 78⟩) [("one", 2)] { kind := .function, names := [(".0", .local), ("one", .local), ("is_within", .globalImplicit), ("many", .free)], isGenerator := false, isCoroutine := false, more := [] } ⟨9, 50, 9, 96⟩)
def b_are_all : Ss :=
 (.cons (.ife (.or (.cons (.not (.call 2 "is_sized" (.cons (.var "thing" 0 ⟨9, 20, 9, 25⟩) (.cons (.var "many" 1 ⟨9, 27, 9, 31⟩) (.cons (.var "many" 1 ⟨9, 33, 9, 37⟩) .nil))) ⟨9, 11, 9, 19⟩ ⟨9, 11, 9, 38⟩) ⟨9, 7, 9, 38⟩) (.cons (.not (.b1 .all b_are_all_1 ⟨9, 46, 9, 49⟩ ⟨9, 46, 9, 97⟩) ⟨9, 42, 9, 97⟩) .nil)) ⟨9, 7, 9, 97⟩)
 (.cons (.ret (.bl false ⟨10, 15, 10, 20⟩) ⟨10, 8, 10, 20⟩)
 .nil)
 .nil ⟨9, 4, 10, 20⟩)
 (.cons (.ret (.cmp .Eq (.b1 .sorted (.var "thing" 0 ⟨11, 18, 11, 23⟩) ⟨11, 11, 11, 17⟩ ⟨11, 11, 11, 24⟩) (.b1r .list (.cons (.var "many" 1 ⟨11, 39, 11, 43⟩) .nil) ⟨11, 28, 11, 32⟩ ⟨11, 33, 11, 38⟩ ⟨11, 33, 11, 44⟩ ⟨11, 28, 11, 45⟩) ⟨11, 11, 11, 45⟩) ⟨11, 4, 11, 45⟩)
 .nil))
def S_are_all : Stmt := PySem.Challenge.pw_squarehouse_k04_whole_faces_of_squares.main.body.getD 4 (.Pass ⟨0, 0, 0, 0⟩)
def N_are_all : List Str := ["thing", "many", "one"]
def P_are_all : List Str := ["thing", "many"]
def F_are_all : Fn := ⟨"are_all", [.own .sh, .own .sh], .sh, 3, run T_are_all 3 2 b_are_all⟩
def T_are_columns : List Fn := T_are_all ++ [F_are_all]
theorem e_are_all : defBody S_are_all = pySs b_are_all := by kernel_rfl
abbrev G_are_all : Sg := ⟨T_are_all, aGT, N_are_all, 2, []⟩
theorem c_are_all : ckDef G_are_all aE0 (defScope S_are_all) F_are_all b_are_all = true := by decide +kernel
/-! are_columns -/
def b_are_columns_1 : E :=
 (.dc (.nm "row" 3 ⟨27, 39, 27, 42⟩) (.of (.var "rows" 0 ⟨27, 46, 27, 50⟩)) (.sub (.var "row" 3 ⟨27, 21, 27, 24⟩) (.var "at" 2 ⟨27, 25, 27, 27⟩) ⟨27, 21, 27, 28⟩) (.bl true ⟨27, 30, 27, 34⟩) [("row", 3)] { kind := .function, names := [(".0", .local), ("row", .local), ("at", .free)], isGenerator := false, isCoroutine := false, more := [] } ⟨27, 20, 27, 51⟩)
def b_are_columns_2 : E :=
 (.lc (.nm "at" 2 ⟨27, 70, 27, 72⟩) (.rng (.cons (.var "many" 1 ⟨27, 82, 27, 86⟩) .nil) ⟨27, 76, 27, 81⟩ ⟨27, 76, 27, 87⟩) .none (.cmp .Eq (.b1 .len b_are_columns_1 ⟨27, 16, 27, 19⟩ ⟨27, 16, 27, 52⟩) (.b1 .len (.var "rows" 0 ⟨27, 60, 27, 64⟩) ⟨27, 56, 27, 59⟩ ⟨27, 56, 27, 65⟩) ⟨27, 16, 27, 65⟩) [("at", 2)] { kind := .function, names := [(".0", .local), ("at", .cell), ("len", .globalImplicit), ("rows", .free)], isGenerator := false, isCoroutine := false, more := [] } ⟨27, 15, 27, 88⟩)
def b_are_columns : Ss :=
 (.cons (.set "many" 1 (.b1 .len (.sub (.var "rows" 0 ⟨26, 15, 26, 19⟩) (.int 0 ⟨26, 20, 26, 21⟩) ⟨26, 15, 26, 22⟩) ⟨26, 11, 26, 14⟩ ⟨26, 11, 26, 23⟩) ⟨26, 4, 26, 8⟩ ⟨26, 4, 26, 23⟩)
 (.cons (.ret (.b1 .all b_are_columns_2 ⟨27, 11, 27, 14⟩ ⟨27, 11, 27, 89⟩) ⟨27, 4, 27, 89⟩)
 .nil))
def S_are_columns : Stmt := PySem.Challenge.pw_squarehouse_k04_whole_faces_of_squares.main.body.getD 12 (.Pass ⟨0, 0, 0, 0⟩)
def N_are_columns : List Str := ["rows", "many", "at", "row"]
def P_are_columns : List Str := ["rows"]
def F_are_columns : Fn := ⟨"are_columns", [.own .sh], .sh, 1, run T_are_columns 4 1 b_are_columns⟩
def T_is_square : List Fn := T_are_columns ++ [F_are_columns]
theorem e_are_columns : defBody S_are_columns = pySs b_are_columns := by kernel_rfl
abbrev G_are_columns : Sg := ⟨T_are_columns, aGT, N_are_columns, 0, []⟩
theorem c_are_columns : ckDef G_are_columns aE0 (defScope S_are_columns) F_are_columns b_are_columns = true := by decide +kernel
/-! is_square -/
def b_is_square_1 : E :=
 (.lc (.nm "row" 1 ⟨29, 83, 29, 86⟩) (.of (.var "thing" 0 ⟨29, 90, 29, 95⟩)) .none (.call 3 "are_all" (.cons (.var "row" 1 ⟨29, 62, 29, 65⟩) (.cons (.b1 .len (.var "thing" 0 ⟨29, 71, 29, 76⟩) ⟨29, 67, 29, 70⟩ ⟨29, 67, 29, 77⟩) .nil)) ⟨29, 54, 29, 61⟩ ⟨29, 54, 29, 78⟩) [("row", 1)] { kind := .function, names := [(".0", .local), ("row", .local), ("are_all", .globalImplicit), ("len", .globalImplicit), ("thing", .free)], isGenerator := false, isCoroutine := false, more := [] } ⟨29, 53, 29, 96⟩)
def b_is_square : Ss :=
 (.cons (.ife (.or (.cons (.not (.call 2 "is_sized" (.cons (.var "thing" 0 ⟨29, 20, 29, 25⟩) (.cons (.int 1 ⟨29, 27, 29, 28⟩) (.cons (.gl "MOST_SIGNS" (.int 6) ⟨29, 30, 29, 40⟩) .nil))) ⟨29, 11, 29, 19⟩ ⟨29, 11, 29, 41⟩) ⟨29, 7, 29, 41⟩) (.cons (.not (.b1 .all b_is_square_1 ⟨29, 49, 29, 52⟩ ⟨29, 49, 29, 97⟩) ⟨29, 45, 29, 97⟩) .nil)) ⟨29, 7, 29, 97⟩)
 (.cons (.ret (.bl false ⟨30, 15, 30, 20⟩) ⟨30, 8, 30, 20⟩)
 .nil)
 .nil ⟨29, 4, 30, 20⟩)
 (.cons (.ret (.call 4 "are_columns" (.cons (.var "thing" 0 ⟨31, 23, 31, 28⟩) .nil) ⟨31, 11, 31, 22⟩ ⟨31, 11, 31, 29⟩) ⟨31, 4, 31, 29⟩)
 .nil))
def S_is_square : Stmt := PySem.Challenge.pw_squarehouse_k04_whole_faces_of_squares.main.body.getD 13 (.Pass ⟨0, 0, 0, 0⟩)
def N_is_square : List Str := ["thing", "row"]
def P_is_square : List Str := ["thing"]
def F_is_square : Fn := ⟨"is_square", [.own .sh], .sh, 4, run T_is_square 2 1 b_is_square⟩
def T_check_square : List Fn := T_is_square ++ [F_is_square]
theorem e_is_square : defBody S_is_square = pySs b_is_square := by kernel_rfl
abbrev G_is_square : Sg := ⟨T_is_square, aGT, N_is_square, 3, []⟩
theorem c_is_square : ckDef G_is_square aE0 (defScope S_is_square) F_is_square b_is_square = true := by decide +kernel
/-! check_square -/

def b_check_square : Ss :=
 (.cons (.ife (.not (.call 5 "is_square" (.cons (.var "thing" 0 ⟨33, 21, 33, 26⟩) .nil) ⟨33, 11, 33, 20⟩ ⟨33, 11, 33, 27⟩) ⟨33, 7, 33, 27⟩)
 (.cons (.rai "NoSquare" ⟨34, 14, 34, 22⟩ ⟨34, 14, 34, 24⟩ ⟨34, 8, 34, 24⟩)
 .nil)
 .nil ⟨33, 4, 34, 24⟩)
 .nil)
def S_check_square : Stmt := PySem.Challenge.pw_squarehouse_k04_whole_faces_of_squares.main.body.getD 14 (.Pass ⟨0, 0, 0, 0⟩)
def N_check_square : List Str := ["thing"]
def P_check_square : List Str := ["thing"]
def F_check_square : Fn := ⟨"check_square", [.own .sh], .sh, 5, run T_check_square 1 1 b_check_square⟩
def T_all_cells : List Fn := T_check_square ++ [F_check_square]
theorem e_check_square : defBody S_check_square = pySs b_check_square := by kernel_rfl
abbrev G_check_square : Sg := ⟨T_check_square, aGT, N_check_square, 4, []⟩
theorem c_check_square : ckDef G_check_square aE0 (defScope S_check_square) F_check_square b_check_square = true := by decide +kernel
/-! all_cells -/
def b_all_cells_1 : E :=
 (.lc (.tp (.cons (.nm "c" 4 ⟨38, 39, 38, 40⟩) (.cons (.nm "sign" 5 ⟨38, 42, 38, 46⟩) .nil)) ⟨38, 39, 38, 46⟩) (.enu (.var "row" 3 ⟨38, 60, 38, 63⟩) ⟨38, 50, 38, 59⟩ ⟨38, 50, 38, 64⟩) .none (.tup (.cons (.var "r" 2 ⟨38, 23, 38, 24⟩) (.cons (.var "c" 4 ⟨38, 26, 38, 27⟩) (.cons (.var "sign" 5 ⟨38, 29, 38, 33⟩) .nil))) ⟨38, 22, 38, 34⟩) [("c", 4), ("sign", 5)] { kind := .function, names := [(".0", .local), ("c", .local), ("sign", .local), ("r", .free)], isGenerator := false, isCoroutine := false, more := [] } ⟨38, 21, 38, 65⟩)
def b_all_cells_2 : Ss :=
 (.cons (.exp (.mut .extend (.nm "found" 1 ⟨38, 8, 38, 13⟩) (.cons b_all_cells_1 .nil) ⟨38, 8, 38, 20⟩ ⟨38, 8, 38, 66⟩) ⟨38, 8, 38, 66⟩)
 .nil)
def b_all_cells : Ss :=
 (.cons (.set "found" 1 (.lst .sh .nil ⟨36, 12, 36, 14⟩) ⟨36, 4, 36, 9⟩ ⟨36, 4, 36, 14⟩)
 (.cons (.for (.tp (.cons (.nm "r" 2 ⟨37, 8, 37, 9⟩) (.cons (.nm "row" 3 ⟨37, 11, 37, 14⟩) .nil)) ⟨37, 8, 37, 14⟩) (.enu (.var "square" 0 ⟨37, 28, 37, 34⟩) ⟨37, 18, 37, 27⟩ ⟨37, 18, 37, 35⟩)
 b_all_cells_2 ⟨37, 4, 38, 66⟩)
 (.cons (.frz 1)
 (.cons (.ret (.var "found" 1 ⟨39, 11, 39, 16⟩) ⟨39, 4, 39, 16⟩)
 .nil))))
def S_all_cells : Stmt := PySem.Challenge.pw_squarehouse_k04_whole_faces_of_squares.main.body.getD 15 (.Pass ⟨0, 0, 0, 0⟩)
def N_all_cells : List Str := ["square", "found", "r", "row", "c", "sign"]
def P_all_cells : List Str := ["square"]
def F_all_cells : Fn := ⟨"all_cells", [.own .sh], .sh, 1, run T_all_cells 6 1 b_all_cells⟩
def T_by_cells : List Fn := T_all_cells ++ [F_all_cells]
theorem e_all_cells : defBody S_all_cells = pySs b_all_cells := by kernel_rfl
abbrev G_all_cells : Sg := ⟨T_all_cells, aGT, N_all_cells, 0, []⟩
theorem c_all_cells : ckDef G_all_cells aE0 (defScope S_all_cells) F_all_cells b_all_cells = true := by decide +kernel
/-! by_cells -/
def b_by_cells_1 : E :=
 (.dc (.tp (.cons (.nm "r" 3 ⟨41, 29, 41, 30⟩) (.cons (.nm "c" 4 ⟨41, 32, 41, 33⟩) (.cons (.nm "sign" 5 ⟨41, 35, 41, 39⟩) .nil))) ⟨41, 29, 41, 39⟩) (.of (.var "cells" 1 ⟨41, 43, 41, 48⟩)) (.tup (.cons (.var "r" 3 ⟨41, 13, 41, 14⟩) (.cons (.var "c" 4 ⟨41, 16, 41, 17⟩) .nil)) ⟨41, 12, 41, 18⟩) (.var "sign" 5 ⟨41, 20, 41, 24⟩) [("r", 3), ("c", 4), ("sign", 5)] { kind := .function, names := [(".0", .local), ("r", .local), ("c", .local), ("sign", .local)], isGenerator := false, isCoroutine := false, more := [] } ⟨41, 11, 41, 49⟩)
def b_by_cells_2 : E :=
 (.lc (.nm "c" 4 ⟨42, 40, 42, 41⟩) (.rng (.cons (.var "n" 0 ⟨42, 51, 42, 52⟩) .nil) ⟨42, 45, 42, 50⟩ ⟨42, 45, 42, 53⟩) .none (.sub (.var "told" 2 ⟨42, 25, 42, 29⟩) (.tup (.cons (.var "r" 3 ⟨42, 30, 42, 31⟩) (.cons (.var "c" 4 ⟨42, 33, 42, 34⟩) .nil)) ⟨42, 30, 42, 34⟩) ⟨42, 25, 42, 35⟩) [("c", 4)] { kind := .function, names := [(".0", .local), ("c", .local), ("r", .free), ("told", .free)], isGenerator := false, isCoroutine := false, more := [] } ⟨42, 24, 42, 54⟩)
def b_by_cells_3 : E :=
 (.lc (.nm "r" 3 ⟨42, 60, 42, 61⟩) (.rng (.cons (.var "n" 0 ⟨42, 71, 42, 72⟩) .nil) ⟨42, 65, 42, 70⟩ ⟨42, 65, 42, 73⟩) .none (.b1 .tuple b_by_cells_2 ⟨42, 18, 42, 23⟩ ⟨42, 18, 42, 55⟩) [("r", 3)] { kind := .function, names := [(".0", .local), ("r", .cell), ("tuple", .globalImplicit), ("range", .globalImplicit), ("n", .free), ("told", .free)], isGenerator := false, isCoroutine := false, more := [] } ⟨42, 17, 42, 74⟩)
def b_by_cells : Ss :=
 (.cons (.set "told" 2 b_by_cells_1 ⟨41, 4, 41, 8⟩ ⟨41, 4, 41, 49⟩)
 (.cons (.ret (.b1 .tuple b_by_cells_3 ⟨42, 11, 42, 16⟩ ⟨42, 11, 42, 75⟩) ⟨42, 4, 42, 75⟩)
 .nil))
def S_by_cells : Stmt := PySem.Challenge.pw_squarehouse_k04_whole_faces_of_squares.main.body.getD 16 (.Pass ⟨0, 0, 0, 0⟩)
def N_by_cells : List Str := ["n", "cells", "told", "r", "c", "sign"]
def P_by_cells : List Str := ["n", "cells"]
def F_by_cells : Fn := ⟨"by_cells", [.own .sh, .own .sh], .sh, 1, run T_by_cells 6 2 b_by_cells⟩
def T_check_face : List Fn := T_by_cells ++ [F_by_cells]
theorem e_by_cells : defBody S_by_cells = pySs b_by_cells := by kernel_rfl
abbrev G_by_cells : Sg := ⟨T_by_cells, aGT, N_by_cells, 0, []⟩
theorem c_by_cells : ckDef G_by_cells aE0 (defScope S_by_cells) F_by_cells b_by_cells = true := by decide +kernel
/-! check_face -/

def b_check_face : Ss :=
 (.cons (.ife (.not (.call 3 "are_all" (.cons (.var "face" 0 ⟨44, 19, 44, 23⟩) (.cons (.int 3 ⟨44, 25, 44, 26⟩) .nil)) ⟨44, 11, 44, 18⟩ ⟨44, 11, 44, 27⟩) ⟨44, 7, 44, 27⟩)
 (.cons (.rai "NoFace" ⟨45, 14, 45, 20⟩ ⟨45, 14, 45, 22⟩ ⟨45, 8, 45, 22⟩)
 .nil)
 .nil ⟨44, 4, 45, 22⟩)
 .nil)
def S_check_face : Stmt := PySem.Challenge.pw_squarehouse_k04_whole_faces_of_squares.main.body.getD 17 (.Pass ⟨0, 0, 0, 0⟩)
def N_check_face : List Str := ["face"]
def P_check_face : List Str := ["face"]
def F_check_face : Fn := ⟨"check_face", [.own .sh], .sh, 4, run T_check_face 1 1 b_check_face⟩
def T_raw_turned : List Fn := T_check_face ++ [F_check_face]
theorem e_check_face : defBody S_check_face = pySs b_check_face := by kernel_rfl
abbrev G_check_face : Sg := ⟨T_check_face, aGT, N_check_face, 3, []⟩
theorem c_check_face : ckDef G_check_face aE0 (defScope S_check_face) F_check_face b_check_face = true := by decide +kernel
/-! raw_turned -/
def b_raw_turned_1 : E :=
 (.lc (.nm "at" 4 ⟨47, 33, 47, 35⟩) (.of (.var "face" 1 ⟨47, 39, 47, 43⟩)) .none (.sub (.var "cell" 3 ⟨47, 20, 47, 24⟩) (.var "at" 4 ⟨47, 25, 47, 27⟩) ⟨47, 20, 47, 28⟩) [("at", 4)] { kind := .function, names := [(".0", .local), ("at", .local), ("cell", .free)], isGenerator := false, isCoroutine := false, more := [] } ⟨47, 19, 47, 44⟩)
def b_raw_turned_2 : E :=
 (.lc (.nm "cell" 3 ⟨47, 50, 47, 54⟩) (.of (.call 7 "all_cells" (.cons (.var "square" 0 ⟨47, 68, 47, 74⟩) .nil) ⟨47, 58, 47, 67⟩ ⟨47, 58, 47, 75⟩)) .none (.b1 .tuple b_raw_turned_1 ⟨47, 13, 47, 18⟩ ⟨47, 13, 47, 45⟩) [("cell", 3)] { kind := .function, names := [(".0", .local), ("cell", .cell), ("tuple", .globalImplicit), ("face", .free)], isGenerator := false, isCoroutine := false, more := [] } ⟨47, 12, 47, 76⟩)
def b_raw_turned : Ss :=
 (.cons (.set "cells" 2 b_raw_turned_2 ⟨47, 4, 47, 9⟩ ⟨47, 4, 47, 76⟩)
 (.cons (.frz 2)
 (.cons (.ret (.call 8 "by_cells" (.cons (.b1 .len (.var "square" 0 ⟨48, 24, 48, 30⟩) ⟨48, 20, 48, 23⟩ ⟨48, 20, 48, 31⟩) (.cons (.var "cells" 2 ⟨48, 33, 48, 38⟩) .nil)) ⟨48, 11, 48, 19⟩ ⟨48, 11, 48, 39⟩) ⟨48, 4, 48, 39⟩)
 .nil)))
def S_raw_turned : Stmt := PySem.Challenge.pw_squarehouse_k04_whole_faces_of_squares.main.body.getD 18 (.Pass ⟨0, 0, 0, 0⟩)
def N_raw_turned : List Str := ["square", "face", "cells", "cell", "at"]
def P_raw_turned : List Str := ["square", "face"]
def F_raw_turned : Fn := ⟨"raw_turned", [.own .sh, .own .sh], .sh, 2, run T_raw_turned 5 2 b_raw_turned⟩
def T_turned : List Fn := T_raw_turned ++ [F_raw_turned]
theorem e_raw_turned : defBody S_raw_turned = pySs b_raw_turned := by kernel_rfl
abbrev G_raw_turned : Sg := ⟨T_raw_turned, aGT, N_raw_turned, 1, []⟩
theorem c_raw_turned : ckDef G_raw_turned aE0 (defScope S_raw_turned) F_raw_turned b_raw_turned = true := by decide +kernel
/-! turned -/

def b_turned : Ss :=
 (.cons (.exp (.call 6 "check_square" (.cons (.var "square" 0 ⟨50, 17, 50, 23⟩) .nil) ⟨50, 4, 50, 16⟩ ⟨50, 4, 50, 24⟩) ⟨50, 4, 50, 24⟩)
 (.cons (.exp (.call 9 "check_face" (.cons (.var "face" 1 ⟨51, 15, 51, 19⟩) .nil) ⟨51, 4, 51, 14⟩ ⟨51, 4, 51, 20⟩) ⟨51, 4, 51, 20⟩)
 (.cons (.ret (.call 10 "raw_turned" (.cons (.var "square" 0 ⟨52, 22, 52, 28⟩) (.cons (.var "face" 1 ⟨52, 30, 52, 34⟩) .nil)) ⟨52, 11, 52, 21⟩ ⟨52, 11, 52, 35⟩) ⟨52, 4, 52, 35⟩)
 .nil)))
def S_turned : Stmt := PySem.Challenge.pw_squarehouse_k04_whole_faces_of_squares.main.body.getD 19 (.Pass ⟨0, 0, 0, 0⟩)
def N_turned : List Str := ["square", "face"]
def P_turned : List Str := ["square", "face"]
def F_turned : Fn := ⟨"turned", [.own .sh, .own .sh], .sh, 6, run T_turned 2 2 b_turned⟩
def T_after_face : List Fn := T_turned ++ [F_turned]
theorem e_turned : defBody S_turned = pySs b_turned := by kernel_rfl
abbrev G_turned : Sg := ⟨T_turned, aGT, N_turned, 5, []⟩
theorem c_turned : ckDef G_turned aE0 (defScope S_turned) F_turned b_turned = true := by decide +kernel
/-! after_face -/
def b_after_face_1 : E :=
 (.lc (.nm "at" 2 ⟨56, 30, 56, 32⟩) (.of (.var "other" 1 ⟨56, 36, 56, 41⟩)) .none (.sub (.var "one" 0 ⟨56, 18, 56, 21⟩) (.var "at" 2 ⟨56, 22, 56, 24⟩) ⟨56, 18, 56, 25⟩) [("at", 2)] { kind := .function, names := [(".0", .local), ("at", .local), ("one", .free)], isGenerator := false, isCoroutine := false, more := [] } ⟨56, 17, 56, 42⟩)
def b_after_face : Ss :=
 (.cons (.exp (.call 9 "check_face" (.cons (.var "one" 0 ⟨54, 15, 54, 18⟩) .nil) ⟨54, 4, 54, 14⟩ ⟨54, 4, 54, 19⟩) ⟨54, 4, 54, 19⟩)
 (.cons (.exp (.call 9 "check_face" (.cons (.var "other" 1 ⟨55, 15, 55, 20⟩) .nil) ⟨55, 4, 55, 14⟩ ⟨55, 4, 55, 21⟩) ⟨55, 4, 55, 21⟩)
 (.cons (.ret (.b1 .tuple b_after_face_1 ⟨56, 11, 56, 16⟩ ⟨56, 11, 56, 43⟩) ⟨56, 4, 56, 43⟩)
 .nil)))
def S_after_face : Stmt := PySem.Challenge.pw_squarehouse_k04_whole_faces_of_squares.main.body.getD 20 (.Pass ⟨0, 0, 0, 0⟩)
def N_after_face : List Str := ["one", "other", "at"]
def P_after_face : List Str := ["one", "other"]
def F_after_face : Fn := ⟨"after_face", [.own .sh, .own .sh], .sh, 5, run T_after_face 3 2 b_after_face⟩
def T_all_faces : List Fn := T_after_face ++ [F_after_face]
theorem e_after_face : defBody S_after_face = pySs b_after_face := by kernel_rfl
abbrev G_after_face : Sg := ⟨T_after_face, aGT, N_after_face, 4, []⟩
theorem c_after_face : ckDef G_after_face aE0 (defScope S_after_face) F_after_face b_after_face = true := by decide +kernel
/-! all_faces -/

def b_all_faces : Ss :=
 (.cons (.ret (.frz (.lst .sh (.cons (.tup (.cons (.int 0 ⟨58, 13, 58, 14⟩) (.cons (.int 1 ⟨58, 16, 58, 17⟩) (.cons (.int 2 ⟨58, 19, 58, 20⟩) .nil))) ⟨58, 12, 58, 21⟩) (.cons (.tup (.cons (.int 0 ⟨58, 24, 58, 25⟩) (.cons (.int 2 ⟨58, 27, 58, 28⟩) (.cons (.int 1 ⟨58, 30, 58, 31⟩) .nil))) ⟨58, 23, 58, 32⟩) (.cons (.tup (.cons (.int 1 ⟨58, 35, 58, 36⟩) (.cons (.int 0 ⟨58, 38, 58, 39⟩) (.cons (.int 2 ⟨58, 41, 58, 42⟩) .nil))) ⟨58, 34, 58, 43⟩) (.cons (.tup (.cons (.int 1 ⟨58, 46, 58, 47⟩) (.cons (.int 2 ⟨58, 49, 58, 50⟩) (.cons (.int 0 ⟨58, 52, 58, 53⟩) .nil))) ⟨58, 45, 58, 54⟩) (.cons (.tup (.cons (.int 2 ⟨58, 57, 58, 58⟩) (.cons (.int 0 ⟨58, 60, 58, 61⟩) (.cons (.int 1 ⟨58, 63, 58, 64⟩) .nil))) ⟨58, 56, 58, 65⟩) (.cons (.tup (.cons (.int 2 ⟨58, 68, 58, 69⟩) (.cons (.int 1 ⟨58, 71, 58, 72⟩) (.cons (.int 0 ⟨58, 74, 58, 75⟩) .nil))) ⟨58, 67, 58, 76⟩) .nil)))))) ⟨58, 11, 58, 77⟩)) ⟨58, 4, 58, 77⟩)
 .nil)
def S_all_faces : Stmt := PySem.Challenge.pw_squarehouse_k04_whole_faces_of_squares.main.body.getD 21 (.Pass ⟨0, 0, 0, 0⟩)
def N_all_faces : List Str := []
def P_all_faces : List Str := []
def F_all_faces : Fn := ⟨"all_faces", [], .sh, 1, run T_all_faces 0 0 b_all_faces⟩
def T_own_faces : List Fn := T_all_faces ++ [F_all_faces]
theorem e_all_faces : defBody S_all_faces = pySs b_all_faces := by kernel_rfl
abbrev G_all_faces : Sg := ⟨T_all_faces, aGT, N_all_faces, 0, []⟩
theorem c_all_faces : ckDef G_all_faces aE0 (defScope S_all_faces) F_all_faces b_all_faces = true := by decide +kernel
/-! own_faces -/
def b_own_faces_1 : E :=
 (.lc (.nm "face" 1 ⟨61, 27, 61, 31⟩) (.of (.call 13 "all_faces" .nil ⟨61, 35, 61, 44⟩ ⟨61, 35, 61, 46⟩)) (.some (.cmp .Eq (.call 10 "raw_turned" (.cons (.var "square" 0 ⟨61, 61, 61, 67⟩) (.cons (.var "face" 1 ⟨61, 69, 61, 73⟩) .nil)) ⟨61, 50, 61, 60⟩ ⟨61, 50, 61, 74⟩) (.var "square" 0 ⟨61, 78, 61, 84⟩) ⟨61, 50, 61, 84⟩)) (.var "face" 1 ⟨61, 18, 61, 22⟩) [("face", 1)] { kind := .function, names := [(".0", .local), ("face", .local), ("raw_turned", .globalImplicit), ("square", .free)], isGenerator := false, isCoroutine := false, more := [] } ⟨61, 17, 61, 85⟩)
def b_own_faces : Ss :=
 (.cons (.exp (.call 6 "check_square" (.cons (.var "square" 0 ⟨60, 17, 60, 23⟩) .nil) ⟨60, 4, 60, 16⟩ ⟨60, 4, 60, 24⟩) ⟨60, 4, 60, 24⟩)
 (.cons (.ret (.b1 .tuple b_own_faces_1 ⟨61, 11, 61, 16⟩ ⟨61, 11, 61, 86⟩) ⟨61, 4, 61, 86⟩)
 .nil))
def S_own_faces : Stmt := PySem.Challenge.pw_squarehouse_k04_whole_faces_of_squares.main.body.getD 22 (.Pass ⟨0, 0, 0, 0⟩)
def N_own_faces : List Str := ["square", "face"]
def P_own_faces : List Str := ["square"]
def F_own_faces : Fn := ⟨"own_faces", [.own .sh], .sh, 6, run T_own_faces 2 1 b_own_faces⟩
def T__law_hand : List Fn := T_own_faces ++ [F_own_faces]
theorem e_own_faces : defBody S_own_faces = pySs b_own_faces := by kernel_rfl
abbrev G_own_faces : Sg := ⟨T_own_faces, aGT, N_own_faces, 5, []⟩
theorem c_own_faces : ckDef G_own_faces aE0 (defScope S_own_faces) F_own_faces b_own_faces = true := by decide +kernel
/-! _law_hand -/
def b__law_hand_1 : E :=
 (.lc (.nm "cell" 2 ⟨64, 32, 64, 36⟩) (.of (.slc (.ls .sh) (.var "script" 0 ⟨64, 40, 64, 46⟩) .none (.some (.int 63 ⟨64, 48, 64, 50⟩)) ⟨64, 47, 64, 50⟩ ⟨64, 40, 64, 51⟩)) .none (.b1 .abs (.b1 .int (.var "cell" 2 ⟨64, 21, 64, 25⟩) ⟨64, 17, 64, 20⟩ ⟨64, 17, 64, 26⟩) ⟨64, 13, 64, 16⟩ ⟨64, 13, 64, 27⟩) [("cell", 2)] { kind := .function, names := [(".0", .local), ("cell", .local), ("abs", .globalImplicit), ("int", .globalImplicit)], isGenerator := false, isCoroutine := false, more := [] } ⟨64, 12, 64, 52⟩)
def b__law_hand : Ss :=
 (.cons (.set "cells" 1 b__law_hand_1 ⟨64, 4, 64, 9⟩ ⟨64, 4, 64, 52⟩)
 (.cons (.frz 1)
 (.cons (.ret (.lst .sh (.cons (.var "cells" 1 ⟨65, 12, 65, 17⟩) (.cons (.int 0 ⟨65, 19, 65, 20⟩) (.cons (.int 0 ⟨65, 22, 65, 23⟩) (.cons (.bop .sh .Add (.int 61 ⟨65, 25, 65, 27⟩) (.bop .sh .Mult (.int 7 ⟨65, 30, 65, 31⟩) (.b1 .len (.var "cells" 1 ⟨65, 38, 65, 43⟩) ⟨65, 34, 65, 37⟩ ⟨65, 34, 65, 44⟩) ⟨65, 30, 65, 44⟩) ⟨65, 25, 65, 44⟩) (.cons (.int 0 ⟨65, 46, 65, 47⟩) .nil))))) ⟨65, 11, 65, 48⟩) ⟨65, 4, 65, 48⟩)
 .nil)))
def S__law_hand : Stmt := PySem.Challenge.pw_squarehouse_k04_whole_faces_of_squares.main.body.getD 24 (.Pass ⟨0, 0, 0, 0⟩)
def N__law_hand : List Str := ["script", "cells", "cell"]
def P__law_hand : List Str := ["script"]
def F__law_hand : Fn := ⟨"_law_hand", [.bor .ks], (.ls .sh), 1, run T__law_hand 3 1 b__law_hand⟩
def T__law_draw : List Fn := T__law_hand ++ [F__law_hand]
theorem e__law_hand : defBody S__law_hand = pySs b__law_hand := by kernel_rfl
abbrev G__law_hand : Sg := ⟨T__law_hand, aGT, N__law_hand, 0, []⟩
theorem c__law_hand : ckDef G__law_hand aE0 (defScope S__law_hand) F__law_hand b__law_hand = true := by decide +kernel
/-! _law_draw -/

def b__law_draw : Ss :=
 (.cons (.ife (.and (.cons (.cmp .Eq (.sub (.var "hand" 0 ⟨67, 7, 67, 11⟩) (.int 2 ⟨67, 12, 67, 13⟩) ⟨67, 7, 67, 14⟩) (.int 0 ⟨67, 18, 67, 19⟩) ⟨67, 7, 67, 19⟩) (.cons (.cmp .Lt (.sub (.var "hand" 0 ⟨67, 24, 67, 28⟩) (.int 1 ⟨67, 29, 67, 30⟩) ⟨67, 24, 67, 31⟩) (.b1 .len (.sub (.var "hand" 0 ⟨67, 38, 67, 42⟩) (.int 0 ⟨67, 43, 67, 44⟩) ⟨67, 38, 67, 45⟩) ⟨67, 34, 67, 37⟩ ⟨67, 34, 67, 46⟩) ⟨67, 24, 67, 46⟩) .nil)) ⟨67, 7, 67, 46⟩)
 (.cons (.set "cell" 2 (.sub (.sub (.var "hand" 0 ⟨68, 15, 68, 19⟩) (.int 0 ⟨68, 20, 68, 21⟩) ⟨68, 15, 68, 22⟩) (.sub (.var "hand" 0 ⟨68, 23, 68, 27⟩) (.int 1 ⟨68, 28, 68, 29⟩) ⟨68, 23, 68, 30⟩) ⟨68, 15, 68, 31⟩) ⟨68, 8, 68, 12⟩ ⟨68, 8, 68, 31⟩)
 (.cons (.setT (.at (.ix (.nm "hand" 0 ⟨69, 8, 69, 12⟩) (.int 1 ⟨69, 13, 69, 14⟩) ⟨69, 8, 69, 15⟩)) (.bop .sh .Add (.sub (.var "hand" 0 ⟨69, 18, 69, 22⟩) (.int 1 ⟨69, 23, 69, 24⟩) ⟨69, 18, 69, 25⟩) (.int 1 ⟨69, 28, 69, 29⟩) ⟨69, 18, 69, 29⟩) ⟨69, 8, 69, 29⟩)
 (.cons (.setT (.at (.ix (.nm "hand" 0 ⟨70, 8, 70, 12⟩) (.int 3 ⟨70, 13, 70, 14⟩) ⟨70, 8, 70, 15⟩)) (.bop .sh .Mod (.b1 .int (.bop .sh .Add (.bop .sh .Add (.bop .sh .Mult (.sub (.var "hand" 0 ⟨70, 22, 70, 26⟩) (.int 3 ⟨70, 27, 70, 28⟩) ⟨70, 22, 70, 29⟩) (.int 69621 ⟨70, 32, 70, 37⟩) ⟨70, 22, 70, 37⟩) (.bop .sh .Mult (.var "cell" 2 ⟨70, 40, 70, 44⟩) (.int 40692 ⟨70, 47, 70, 52⟩) ⟨70, 40, 70, 52⟩) ⟨70, 22, 70, 52⟩) (.int 31 ⟨70, 55, 70, 57⟩) ⟨70, 22, 70, 57⟩) ⟨70, 18, 70, 21⟩ ⟨70, 18, 70, 58⟩) (.int 2147483629 ⟨70, 61, 70, 71⟩) ⟨70, 18, 70, 71⟩) ⟨70, 8, 70, 71⟩)
 (.cons (.ife (.cmp .GtE (.var "cell" 2 ⟨71, 11, 71, 15⟩) (.bop .sh .Pow (.int 10 ⟨71, 19, 71, 21⟩) (.int 18 ⟨71, 25, 71, 27⟩) ⟨71, 19, 71, 27⟩) ⟨71, 11, 71, 27⟩)
 (.cons (.setT (.at (.ix (.nm "hand" 0 ⟨72, 12, 72, 16⟩) (.int 2 ⟨72, 17, 72, 18⟩) ⟨72, 12, 72, 19⟩)) (.var "cell" 2 ⟨72, 22, 72, 26⟩) ⟨72, 12, 72, 26⟩)
 .nil)
 .nil ⟨71, 8, 72, 26⟩)
 .nil))))
 .nil ⟨67, 4, 72, 26⟩)
 (.cons (.ife (.cmp .Gt (.sub (.var "hand" 0 ⟨73, 7, 73, 11⟩) (.int 2 ⟨73, 12, 73, 13⟩) ⟨73, 7, 73, 14⟩) (.int 0 ⟨73, 17, 73, 18⟩) ⟨73, 7, 73, 18⟩)
 (.cons (.set "digit" 3 (.bop .sh .Mod (.b1 .int (.sub (.var "hand" 0 ⟨74, 20, 74, 24⟩) (.int 2 ⟨74, 25, 74, 26⟩) ⟨74, 20, 74, 27⟩) ⟨74, 16, 74, 19⟩ ⟨74, 16, 74, 28⟩) (.var "many" 1 ⟨74, 31, 74, 35⟩) ⟨74, 16, 74, 35⟩) ⟨74, 8, 74, 13⟩ ⟨74, 8, 74, 35⟩)
 (.cons (.setT (.at (.ix (.nm "hand" 0 ⟨75, 8, 75, 12⟩) (.int 2 ⟨75, 13, 75, 14⟩) ⟨75, 8, 75, 15⟩)) (.bop .sh .FloorDiv (.sub (.var "hand" 0 ⟨75, 18, 75, 22⟩) (.int 2 ⟨75, 23, 75, 24⟩) ⟨75, 18, 75, 25⟩) (.var "many" 1 ⟨75, 29, 75, 33⟩) ⟨75, 18, 75, 33⟩) ⟨75, 8, 75, 33⟩)
 (.cons (.ret (.var "digit" 3 ⟨76, 15, 76, 20⟩) ⟨76, 8, 76, 20⟩)
 .nil)))
 .nil ⟨73, 4, 76, 20⟩)
 (.cons (.setT (.at (.ix (.nm "hand" 0 ⟨77, 4, 77, 8⟩) (.int 4 ⟨77, 9, 77, 10⟩) ⟨77, 4, 77, 11⟩)) (.bop .sh .Add (.sub (.var "hand" 0 ⟨77, 14, 77, 18⟩) (.int 4 ⟨77, 19, 77, 20⟩) ⟨77, 14, 77, 21⟩) (.int 1 ⟨77, 24, 77, 25⟩) ⟨77, 14, 77, 25⟩) ⟨77, 4, 77, 25⟩)
 (.cons (.set "number" 4 (.bop .sh .Mod (.b1 .int (.bop .sh .Mult (.b1 .int (.bop .sh .Add (.sub (.var "hand" 0 ⟨78, 21, 78, 25⟩) (.int 3 ⟨78, 26, 78, 27⟩) ⟨78, 21, 78, 28⟩) (.bop .sh .Mult (.int 7919 ⟨78, 31, 78, 35⟩) (.sub (.var "hand" 0 ⟨78, 38, 78, 42⟩) (.int 4 ⟨78, 43, 78, 44⟩) ⟨78, 38, 78, 45⟩) ⟨78, 31, 78, 45⟩) ⟨78, 21, 78, 45⟩) ⟨78, 17, 78, 20⟩ ⟨78, 17, 78, 46⟩) (.int 48271 ⟨78, 49, 78, 54⟩) ⟨78, 17, 78, 54⟩) ⟨78, 13, 78, 16⟩ ⟨78, 13, 78, 55⟩) (.int 2147483647 ⟨78, 58, 78, 68⟩) ⟨78, 13, 78, 68⟩) ⟨78, 4, 78, 10⟩ ⟨78, 4, 78, 68⟩)
 (.cons (.set "number" 4 (.bop .sh .Mod (.b1 .int (.bop .sh .Mult (.var "number" 4 ⟨79, 17, 79, 23⟩) (.bop .sh .Add (.bop .sh .FloorDiv (.var "number" 4 ⟨79, 27, 79, 33⟩) (.int 1009 ⟨79, 37, 79, 41⟩) ⟨79, 27, 79, 41⟩) (.int 69621 ⟨79, 44, 79, 49⟩) ⟨79, 27, 79, 49⟩) ⟨79, 17, 79, 50⟩) ⟨79, 13, 79, 16⟩ ⟨79, 13, 79, 51⟩) (.int 2147483647 ⟨79, 54, 79, 64⟩) ⟨79, 13, 79, 64⟩) ⟨79, 4, 79, 10⟩ ⟨79, 4, 79, 64⟩)
 (.cons (.set "number" 4 (.bop .sh .Mod (.b1 .int (.bop .sh .Mult (.var "number" 4 ⟨80, 17, 80, 23⟩) (.bop .sh .Add (.bop .sh .FloorDiv (.var "number" 4 ⟨80, 27, 80, 33⟩) (.int 2003 ⟨80, 37, 80, 41⟩) ⟨80, 27, 80, 41⟩) (.int 40014 ⟨80, 44, 80, 49⟩) ⟨80, 27, 80, 49⟩) ⟨80, 17, 80, 50⟩) ⟨80, 13, 80, 16⟩ ⟨80, 13, 80, 51⟩) (.int 2147483563 ⟨80, 54, 80, 64⟩) ⟨80, 13, 80, 64⟩) ⟨80, 4, 80, 10⟩ ⟨80, 4, 80, 64⟩)
 (.cons (.ret (.bop .sh .Mod (.b1 .int (.bop .sh .FloorDiv (.var "number" 4 ⟨81, 15, 81, 21⟩) (.int 16 ⟨81, 25, 81, 27⟩) ⟨81, 15, 81, 27⟩) ⟨81, 11, 81, 14⟩ ⟨81, 11, 81, 28⟩) (.var "many" 1 ⟨81, 31, 81, 35⟩) ⟨81, 11, 81, 35⟩) ⟨81, 4, 81, 35⟩)
 .nil)))))))
def S__law_draw : Stmt := PySem.Challenge.pw_squarehouse_k04_whole_faces_of_squares.main.body.getD 25 (.Pass ⟨0, 0, 0, 0⟩)
def N__law_draw : List Str := ["hand", "many", "cell", "digit", "number"]
def P__law_draw : List Str := ["hand", "many"]
def F__law_draw : Fn := ⟨"_law_draw", [.ref (.ls .sh), .own .sh], .sh, 1, run T__law_draw 5 2 b__law_draw⟩
def T__law_any : List Fn := T__law_draw ++ [F__law_draw]
theorem e__law_draw : defBody S__law_draw = pySs b__law_draw := by kernel_rfl
abbrev G__law_draw : Sg := ⟨T__law_draw, aGT, N__law_draw, 0, []⟩
theorem c__law_draw : ckDef G__law_draw aE0 (defScope S__law_draw) F__law_draw b__law_draw = true := by decide +kernel
/-! _law_any -/

def b__law_any : Ss :=
 (.cons (.ret (.sub (.var "some" 1 ⟨83, 11, 83, 15⟩) (.call 16 "_law_draw" (.cons (.var "hand" 0 ⟨83, 26, 83, 30⟩) (.cons (.b1 .len (.var "some" 1 ⟨83, 36, 83, 40⟩) ⟨83, 32, 83, 35⟩ ⟨83, 32, 83, 41⟩) .nil)) ⟨83, 16, 83, 25⟩ ⟨83, 16, 83, 42⟩) ⟨83, 11, 83, 43⟩) ⟨83, 4, 83, 43⟩)
 .nil)
def S__law_any : Stmt := PySem.Challenge.pw_squarehouse_k04_whole_faces_of_squares.main.body.getD 26 (.Pass ⟨0, 0, 0, 0⟩)
def N__law_any : List Str := ["hand", "some"]
def P__law_any : List Str := ["hand", "some"]
def F__law_any : Fn := ⟨"_law_any", [.ref (.ls .sh), .own .sh], .sh, 2, run T__law_any 2 2 b__law_any⟩
def T__law_names : List Fn := T__law_any ++ [F__law_any]
theorem e__law_any : defBody S__law_any = pySs b__law_any := by kernel_rfl
abbrev G__law_any : Sg := ⟨T__law_any, aGT, N__law_any, 1, []⟩
theorem c__law_any : ckDef G__law_any aE0 (defScope S__law_any) F__law_any b__law_any = true := by decide +kernel
/-! _law_names -/
def b__law_names_1 : Ss :=
 (.cons (.exp (.mut .append (.nm "found" 3 ⟨87, 8, 87, 13⟩) (.cons (.mut .pop (.nm "left" 2 ⟨87, 21, 87, 25⟩) (.cons (.call 16 "_law_draw" (.cons (.var "hand" 0 ⟨87, 40, 87, 44⟩) (.cons (.b1 .len (.var "left" 2 ⟨87, 50, 87, 54⟩) ⟨87, 46, 87, 49⟩ ⟨87, 46, 87, 55⟩) .nil)) ⟨87, 30, 87, 39⟩ ⟨87, 30, 87, 56⟩) .nil) ⟨87, 21, 87, 29⟩ ⟨87, 21, 87, 57⟩) .nil) ⟨87, 8, 87, 20⟩ ⟨87, 8, 87, 58⟩) ⟨87, 8, 87, 58⟩)
 .nil)
def b__law_names : Ss :=
 (.cons (.setP (.cons (.nm "left" 2 ⟨85, 4, 85, 8⟩) (.cons (.nm "found" 3 ⟨85, 10, 85, 15⟩) .nil)) (.cons (.b1r .list (.cons (.var "n" 1 ⟨85, 30, 85, 31⟩) .nil) ⟨85, 19, 85, 23⟩ ⟨85, 24, 85, 29⟩ ⟨85, 24, 85, 32⟩ ⟨85, 19, 85, 33⟩) (.cons (.lst .sh .nil ⟨85, 35, 85, 37⟩) .nil)) ⟨85, 4, 85, 15⟩ ⟨85, 18, 85, 38⟩ ⟨85, 4, 85, 38⟩)
 (.cons (.for (.nm "step" 4 ⟨86, 8, 86, 12⟩) (.rng (.cons (.var "n" 1 ⟨86, 22, 86, 23⟩) .nil) ⟨86, 16, 86, 21⟩ ⟨86, 16, 86, 24⟩)
 b__law_names_1 ⟨86, 4, 87, 58⟩)
 (.cons (.ret (.b1 .tuple (.var "found" 3 ⟨88, 17, 88, 22⟩) ⟨88, 11, 88, 16⟩ ⟨88, 11, 88, 23⟩) ⟨88, 4, 88, 23⟩)
 .nil)))
def S__law_names : Stmt := PySem.Challenge.pw_squarehouse_k04_whole_faces_of_squares.main.body.getD 27 (.Pass ⟨0, 0, 0, 0⟩)
def N__law_names : List Str := ["hand", "n", "left", "found", "step"]
def P__law_names : List Str := ["hand", "n"]
def F__law_names : Fn := ⟨"_law_names", [.ref (.ls .sh), .own .sh], .sh, 2, run T__law_names 5 2 b__law_names⟩
def T__law_moved : List Fn := T__law_names ++ [F__law_names]
theorem e__law_names : defBody S__law_names = pySs b__law_names := by kernel_rfl
abbrev G__law_names : Sg := ⟨T__law_names, aGT, N__law_names, 1, []⟩
theorem c__law_names : ckDef G__law_names aE0 (defScope S__law_names) F__law_names b__law_names = true := by decide +kernel
/-! _law_moved -/
def b__law_moved_1 : E :=
 (.lc (.nm "place" 8 ⟨91, 25, 91, 30⟩) (.rng (.cons (.var "n" 4 ⟨91, 40, 91, 41⟩) .nil) ⟨91, 34, 91, 39⟩ ⟨91, 34, 91, 42⟩) .none (.bop (.ls .sh) .Mult (.lst .sh (.cons (.int 0 ⟨91, 14, 91, 15⟩) .nil) ⟨91, 13, 91, 16⟩) (.var "n" 4 ⟨91, 19, 91, 20⟩) ⟨91, 13, 91, 20⟩) [("place", 8)] { kind := .function, names := [(".0", .local), ("place", .local), ("n", .free)], isGenerator := false, isCoroutine := false, more := [] } ⟨91, 12, 91, 43⟩)
def b__law_moved_2 : Ss :=
 (.cons (.setT (.at (.ix (.ix (.nm "found" 5 ⟨94, 12, 94, 17⟩) (.sub (.var "rows" 1 ⟨94, 18, 94, 22⟩) (.var "r" 6 ⟨94, 23, 94, 24⟩) ⟨94, 18, 94, 25⟩) ⟨94, 12, 94, 26⟩) (.sub (.var "columns" 2 ⟨94, 27, 94, 34⟩) (.var "c" 7 ⟨94, 35, 94, 36⟩) ⟨94, 27, 94, 37⟩) ⟨94, 12, 94, 38⟩)) (.sub (.var "signs" 3 ⟨94, 41, 94, 46⟩) (.sub (.sub (.var "square" 0 ⟨94, 47, 94, 53⟩) (.var "r" 6 ⟨94, 54, 94, 55⟩) ⟨94, 47, 94, 56⟩) (.var "c" 7 ⟨94, 57, 94, 58⟩) ⟨94, 47, 94, 59⟩) ⟨94, 41, 94, 60⟩) ⟨94, 12, 94, 60⟩)
 .nil)
def b__law_moved_3 : Ss :=
 (.cons (.for (.nm "c" 7 ⟨93, 12, 93, 13⟩) (.rng (.cons (.var "n" 4 ⟨93, 23, 93, 24⟩) .nil) ⟨93, 17, 93, 22⟩ ⟨93, 17, 93, 25⟩)
 b__law_moved_2 ⟨93, 8, 94, 60⟩)
 .nil)
def b__law_moved_4 : E :=
 (.lc (.nm "row" 9 ⟨95, 33, 95, 36⟩) (.of (.var "found" 5 ⟨95, 40, 95, 45⟩)) .none (.b1 .tuple (.var "row" 9 ⟨95, 24, 95, 27⟩) ⟨95, 18, 95, 23⟩ ⟨95, 18, 95, 28⟩) [("row", 9)] { kind := .function, names := [(".0", .local), ("row", .local), ("tuple", .globalImplicit)], isGenerator := false, isCoroutine := false, more := [] } ⟨95, 17, 95, 46⟩)
def b__law_moved : Ss :=
 (.cons (.set "n" 4 (.b1 .len (.var "square" 0 ⟨90, 12, 90, 18⟩) ⟨90, 8, 90, 11⟩ ⟨90, 8, 90, 19⟩) ⟨90, 4, 90, 5⟩ ⟨90, 4, 90, 19⟩)
 (.cons (.set "found" 5 b__law_moved_1 ⟨91, 4, 91, 9⟩ ⟨91, 4, 91, 43⟩)
 (.cons (.for (.nm "r" 6 ⟨92, 8, 92, 9⟩) (.rng (.cons (.var "n" 4 ⟨92, 19, 92, 20⟩) .nil) ⟨92, 13, 92, 18⟩ ⟨92, 13, 92, 21⟩)
 b__law_moved_3 ⟨92, 4, 94, 60⟩)
 (.cons (.ret (.b1 .tuple b__law_moved_4 ⟨95, 11, 95, 16⟩ ⟨95, 11, 95, 47⟩) ⟨95, 4, 95, 47⟩)
 .nil))))
def S__law_moved : Stmt := PySem.Challenge.pw_squarehouse_k04_whole_faces_of_squares.main.body.getD 28 (.Pass ⟨0, 0, 0, 0⟩)
def N__law_moved : List Str := ["square", "rows", "columns", "signs", "n", "found", "r", "c", "place", "row"]
def P__law_moved : List Str := ["square", "rows", "columns", "signs"]
def F__law_moved : Fn := ⟨"_law_moved", [.own .sh, .own .sh, .own .sh, .own .sh], .sh, 1, run T__law_moved 10 4 b__law_moved⟩
def T__law_square : List Fn := T__law_moved ++ [F__law_moved]
theorem e__law_moved : defBody S__law_moved = pySs b__law_moved := by kernel_rfl
abbrev G__law_moved : Sg := ⟨T__law_moved, aGT, N__law_moved, 0, []⟩
theorem c__law_moved : ckDef G__law_moved aE0 (defScope S__law_moved) F__law_moved b__law_moved = true := by decide +kernel
/-! _law_square -/
def b__law_square_1 : E :=
 (.lc (.nm "c" 11 ⟨98, 32, 98, 33⟩) (.rng (.cons (.var "n" 2 ⟨98, 43, 98, 44⟩) .nil) ⟨98, 37, 98, 42⟩ ⟨98, 37, 98, 45⟩) .none (.bop .sh .Mod (.b1 .int (.bop .sh .Add (.var "r" 10 ⟨98, 17, 98, 18⟩) (.var "c" 11 ⟨98, 21, 98, 22⟩) ⟨98, 17, 98, 22⟩) ⟨98, 13, 98, 16⟩ ⟨98, 13, 98, 23⟩) (.var "n" 2 ⟨98, 26, 98, 27⟩) ⟨98, 13, 98, 27⟩) [("c", 11)] { kind := .function, names := [(".0", .local), ("c", .local), ("int", .globalImplicit), ("n", .free), ("r", .free)], isGenerator := false, isCoroutine := false, more := [] } ⟨98, 12, 98, 46⟩)
def b__law_square_2 : E :=
 (.lc (.nm "r" 10 ⟨98, 51, 98, 52⟩) (.rng (.cons (.var "n" 2 ⟨98, 62, 98, 63⟩) .nil) ⟨98, 56, 98, 61⟩ ⟨98, 56, 98, 64⟩) .none b__law_square_1 [("r", 10)] { kind := .function, names := [(".0", .local), ("r", .cell), ("range", .globalImplicit), ("n", .free)], isGenerator := false, isCoroutine := false, more := [] } ⟨98, 11, 98, 65⟩)
def b__law_square_3 : E :=
 (.cmp .NotEq (.var "some" 8 ⟨102, 14, 102, 18⟩) (.lst .sh .nil ⟨102, 22, 102, 24⟩) ⟨102, 14, 102, 24⟩)
def b__law_square_4 : E :=
 (.lc (.nm "c" 11 ⟨105, 26, 105, 27⟩) (.rng (.cons (.var "n" 2 ⟨105, 37, 105, 38⟩) .nil) ⟨105, 31, 105, 36⟩ ⟨105, 31, 105, 39⟩) (.some (.and (.cons (.cmp .NotEq (.var "c" 11 ⟨105, 43, 105, 44⟩) (.var "here" 7 ⟨105, 48, 105, 52⟩) ⟨105, 43, 105, 52⟩) (.cons (.cmp .Eq (.sub (.sub (.var "rows" 3 ⟨105, 57, 105, 61⟩) (.var "i" 5 ⟨105, 62, 105, 63⟩) ⟨105, 57, 105, 64⟩) (.var "c" 11 ⟨105, 65, 105, 66⟩) ⟨105, 57, 105, 67⟩) (.sub (.sub (.var "rows" 3 ⟨105, 71, 105, 75⟩) (.var "i" 5 ⟨105, 76, 105, 77⟩) ⟨105, 71, 105, 78⟩) (.var "here" 7 ⟨105, 79, 105, 83⟩) ⟨105, 71, 105, 84⟩) ⟨105, 57, 105, 84⟩) .nil)) ⟨105, 43, 105, 84⟩)) (.var "c" 11 ⟨105, 20, 105, 21⟩) [("c", 11)] { kind := .function, names := [(".0", .local), ("c", .local), ("here", .free), ("i", .free), ("rows", .free)], isGenerator := false, isCoroutine := false, more := [] } ⟨105, 19, 105, 85⟩)
def b__law_square_5 : Ss :=
 (.cons (.set "here" 7 (.sub (.var "some" 8 ⟨103, 19, 103, 23⟩) (.int 0 ⟨103, 24, 103, 25⟩) ⟨103, 19, 103, 26⟩) ⟨103, 12, 103, 16⟩ ⟨103, 12, 103, 26⟩)
 (.cons (.setT (.tp (.cons (.at (.ix (.ix (.nm "rows" 3 ⟨104, 12, 104, 16⟩) (.var "i" 5 ⟨104, 17, 104, 18⟩) ⟨104, 12, 104, 19⟩) (.var "here" 7 ⟨104, 20, 104, 24⟩) ⟨104, 12, 104, 25⟩)) (.cons (.at (.ix (.ix (.nm "rows" 3 ⟨104, 27, 104, 31⟩) (.var "j" 6 ⟨104, 32, 104, 33⟩) ⟨104, 27, 104, 34⟩) (.var "here" 7 ⟨104, 35, 104, 39⟩) ⟨104, 27, 104, 40⟩)) .nil)) ⟨104, 12, 104, 40⟩) (.tup (.cons (.sub (.sub (.var "rows" 3 ⟨104, 44, 104, 48⟩) (.var "j" 6 ⟨104, 49, 104, 50⟩) ⟨104, 44, 104, 51⟩) (.var "here" 7 ⟨104, 52, 104, 56⟩) ⟨104, 44, 104, 57⟩) (.cons (.sub (.sub (.var "rows" 3 ⟨104, 59, 104, 63⟩) (.var "i" 5 ⟨104, 64, 104, 65⟩) ⟨104, 59, 104, 66⟩) (.var "here" 7 ⟨104, 67, 104, 71⟩) ⟨104, 59, 104, 72⟩) .nil)) ⟨104, 43, 104, 73⟩) ⟨104, 12, 104, 73⟩)
 (.cons (.set "some" 8 b__law_square_4 ⟨105, 12, 105, 16⟩ ⟨105, 12, 105, 85⟩)
 (.cons (.frz 8)
 .nil))))
def b__law_square_6 : Ss :=
 (.cons (.setT (.tp (.cons (.nm "i" 5 ⟨100, 8, 100, 9⟩) (.cons (.nm "j" 6 ⟨100, 11, 100, 12⟩) (.cons (.nm "here" 7 ⟨100, 14, 100, 18⟩) .nil))) ⟨100, 8, 100, 18⟩) (.tup (.cons (.call 16 "_law_draw" (.cons (.var "hand" 0 ⟨100, 32, 100, 36⟩) (.cons (.var "n" 2 ⟨100, 38, 100, 39⟩) .nil)) ⟨100, 22, 100, 31⟩ ⟨100, 22, 100, 40⟩) (.cons (.call 16 "_law_draw" (.cons (.var "hand" 0 ⟨100, 52, 100, 56⟩) (.cons (.var "n" 2 ⟨100, 58, 100, 59⟩) .nil)) ⟨100, 42, 100, 51⟩ ⟨100, 42, 100, 60⟩) (.cons (.call 16 "_law_draw" (.cons (.var "hand" 0 ⟨100, 72, 100, 76⟩) (.cons (.var "n" 2 ⟨100, 78, 100, 79⟩) .nil)) ⟨100, 62, 100, 71⟩ ⟨100, 62, 100, 80⟩) .nil))) ⟨100, 21, 100, 81⟩) ⟨100, 8, 100, 81⟩)
 (.cons (.set "some" 8 (.ife (.cmp .NotEq (.var "i" 5 ⟨101, 25, 101, 26⟩) (.var "j" 6 ⟨101, 30, 101, 31⟩) ⟨101, 25, 101, 31⟩) (.frz (.lst .sh (.cons (.var "here" 7 ⟨101, 16, 101, 20⟩) .nil) ⟨101, 15, 101, 21⟩)) (.frz (.lst .sh .nil ⟨101, 37, 101, 39⟩)) ⟨101, 15, 101, 39⟩) ⟨101, 8, 101, 12⟩ ⟨101, 8, 101, 39⟩)
 (.cons (.whl b__law_square_3
 b__law_square_5 ⟨102, 8, 105, 85⟩)
 .nil)))
def b__law_square_7 : E :=
 (.lc (.nm "row" 12 ⟨106, 35, 106, 38⟩) (.of (.var "rows" 3 ⟨106, 42, 106, 46⟩)) .none (.b1 .tuple (.var "row" 12 ⟨106, 26, 106, 29⟩) ⟨106, 20, 106, 25⟩ ⟨106, 20, 106, 30⟩) [("row", 12)] { kind := .function, names := [(".0", .local), ("row", .local), ("tuple", .globalImplicit)], isGenerator := false, isCoroutine := false, more := [] } ⟨106, 19, 106, 47⟩)
def b__law_square : Ss :=
 (.cons (.set "n" 2 (.bop .sh .Add (.int 1 ⟨97, 8, 97, 9⟩) (.call 16 "_law_draw" (.cons (.var "hand" 0 ⟨97, 22, 97, 26⟩) (.cons (.var "most" 1 ⟨97, 28, 97, 32⟩) .nil)) ⟨97, 12, 97, 21⟩ ⟨97, 12, 97, 33⟩) ⟨97, 8, 97, 33⟩) ⟨97, 4, 97, 5⟩ ⟨97, 4, 97, 33⟩)
 (.cons (.set "rows" 3 b__law_square_2 ⟨98, 4, 98, 8⟩ ⟨98, 4, 98, 65⟩)
 (.cons (.for (.nm "step" 4 ⟨99, 8, 99, 12⟩) (.rng (.cons (.call 16 "_law_draw" (.cons (.var "hand" 0 ⟨99, 32, 99, 36⟩) (.cons (.int 6 ⟨99, 38, 99, 39⟩) .nil)) ⟨99, 22, 99, 31⟩ ⟨99, 22, 99, 40⟩) .nil) ⟨99, 16, 99, 21⟩ ⟨99, 16, 99, 41⟩)
 b__law_square_6 ⟨99, 4, 105, 85⟩)
 (.cons (.set "square" 9 (.b1 .tuple b__law_square_7 ⟨106, 13, 106, 18⟩ ⟨106, 13, 106, 48⟩) ⟨106, 4, 106, 10⟩ ⟨106, 4, 106, 48⟩)
 (.cons (.ret (.call 19 "_law_moved" (.cons (.var "square" 9 ⟨107, 22, 107, 28⟩) (.cons (.call 18 "_law_names" (.cons (.var "hand" 0 ⟨107, 41, 107, 45⟩) (.cons (.var "n" 2 ⟨107, 47, 107, 48⟩) .nil)) ⟨107, 30, 107, 40⟩ ⟨107, 30, 107, 49⟩) (.cons (.call 18 "_law_names" (.cons (.var "hand" 0 ⟨107, 62, 107, 66⟩) (.cons (.var "n" 2 ⟨107, 68, 107, 69⟩) .nil)) ⟨107, 51, 107, 61⟩ ⟨107, 51, 107, 70⟩) (.cons (.call 18 "_law_names" (.cons (.var "hand" 0 ⟨107, 83, 107, 87⟩) (.cons (.var "n" 2 ⟨107, 89, 107, 90⟩) .nil)) ⟨107, 72, 107, 82⟩ ⟨107, 72, 107, 91⟩) .nil)))) ⟨107, 11, 107, 21⟩ ⟨107, 11, 107, 92⟩) ⟨107, 4, 107, 92⟩)
 .nil)))))
def S__law_square : Stmt := PySem.Challenge.pw_squarehouse_k04_whole_faces_of_squares.main.body.getD 29 (.Pass ⟨0, 0, 0, 0⟩)
def N__law_square : List Str := ["hand", "most", "n", "rows", "step", "i", "j", "here", "some", "square", "r", "c", "row"]
def P__law_square : List Str := ["hand", "most"]
def F__law_square : Fn := ⟨"_law_square", [.ref (.ls .sh), .own .sh], .sh, 3, run T__law_square 13 2 b__law_square⟩
def T__law_cells : List Fn := T__law_square ++ [F__law_square]
theorem e__law_square : defBody S__law_square = pySs b__law_square := by kernel_rfl
abbrev G__law_square : Sg := ⟨T__law_square, aGT, N__law_square, 2, []⟩
theorem c__law_square : ckDef G__law_square aE0 (defScope S__law_square) F__law_square b__law_square = true := by decide +kernel
/-! _law_cells -/
def b__law_cells_1 : E :=
 (.lc (.tp (.cons (.nm "c" 4 ⟨111, 42, 111, 43⟩) (.cons (.nm "sign" 5 ⟨111, 45, 111, 49⟩) .nil)) ⟨111, 42, 111, 49⟩) (.enu (.var "row" 3 ⟨111, 63, 111, 66⟩) ⟨111, 53, 111, 62⟩ ⟨111, 53, 111, 67⟩) .none (.tup (.cons (.var "r" 2 ⟨111, 26, 111, 27⟩) (.cons (.var "c" 4 ⟨111, 29, 111, 30⟩) (.cons (.var "sign" 5 ⟨111, 32, 111, 36⟩) .nil))) ⟨111, 25, 111, 37⟩) [("c", 4), ("sign", 5)] { kind := .function, names := [(".0", .local), ("c", .local), ("sign", .local), ("r", .free)], isGenerator := false, isCoroutine := false, more := [] } ⟨111, 24, 111, 68⟩)
def b__law_cells_2 : Ss :=
 (.cons (.set "found" 1 (.frz (.bop (.ls .sh) .Add (.var "found" 1 ⟨111, 16, 111, 21⟩) b__law_cells_1 ⟨111, 16, 111, 68⟩)) ⟨111, 8, 111, 13⟩ ⟨111, 8, 111, 68⟩)
 .nil)
def b__law_cells : Ss :=
 (.cons (.set "found" 1 (.frz (.lst .sh .nil ⟨109, 12, 109, 14⟩)) ⟨109, 4, 109, 9⟩ ⟨109, 4, 109, 14⟩)
 (.cons (.for (.tp (.cons (.nm "r" 2 ⟨110, 8, 110, 9⟩) (.cons (.nm "row" 3 ⟨110, 11, 110, 14⟩) .nil)) ⟨110, 8, 110, 14⟩) (.enu (.var "square" 0 ⟨110, 28, 110, 34⟩) ⟨110, 18, 110, 27⟩ ⟨110, 18, 110, 35⟩)
 b__law_cells_2 ⟨110, 4, 111, 68⟩)
 (.cons (.ret (.var "found" 1 ⟨112, 11, 112, 16⟩) ⟨112, 4, 112, 16⟩)
 .nil)))
def S__law_cells : Stmt := PySem.Challenge.pw_squarehouse_k04_whole_faces_of_squares.main.body.getD 30 (.Pass ⟨0, 0, 0, 0⟩)
def N__law_cells : List Str := ["square", "found", "r", "row", "c", "sign"]
def P__law_cells : List Str := ["square"]
def F__law_cells : Fn := ⟨"_law_cells", [.own .sh], .sh, 1, run T__law_cells 6 1 b__law_cells⟩
def T__law_by_cells : List Fn := T__law_cells ++ [F__law_cells]
theorem e__law_cells : defBody S__law_cells = pySs b__law_cells := by kernel_rfl
abbrev G__law_cells : Sg := ⟨T__law_cells, aGT, N__law_cells, 0, []⟩
theorem c__law_cells : ckDef G__law_cells aE0 (defScope S__law_cells) F__law_cells b__law_cells = true := by decide +kernel
/-! _law_by_cells -/
def b__law_by_cells_1 : E :=
 (.lc (.nm "place" 6 ⟨114, 25, 114, 30⟩) (.rng (.cons (.var "n" 0 ⟨114, 40, 114, 41⟩) .nil) ⟨114, 34, 114, 39⟩ ⟨114, 34, 114, 42⟩) .none (.bop (.ls .sh) .Mult (.lst .sh (.cons (.int 0 ⟨114, 14, 114, 15⟩) .nil) ⟨114, 13, 114, 16⟩) (.var "n" 0 ⟨114, 19, 114, 20⟩) ⟨114, 13, 114, 20⟩) [("place", 6)] { kind := .function, names := [(".0", .local), ("place", .local), ("n", .free)], isGenerator := false, isCoroutine := false, more := [] } ⟨114, 12, 114, 43⟩)
def b__law_by_cells_2 : Ss :=
 (.cons (.setT (.at (.ix (.ix (.nm "found" 2 ⟨116, 8, 116, 13⟩) (.var "r" 3 ⟨116, 14, 116, 15⟩) ⟨116, 8, 116, 16⟩) (.var "c" 4 ⟨116, 17, 116, 18⟩) ⟨116, 8, 116, 19⟩)) (.var "sign" 5 ⟨116, 22, 116, 26⟩) ⟨116, 8, 116, 26⟩)
 .nil)
def b__law_by_cells_3 : E :=
 (.lc (.nm "row" 7 ⟨117, 33, 117, 36⟩) (.of (.var "found" 2 ⟨117, 40, 117, 45⟩)) .none (.b1 .tuple (.var "row" 7 ⟨117, 24, 117, 27⟩) ⟨117, 18, 117, 23⟩ ⟨117, 18, 117, 28⟩) [("row", 7)] { kind := .function, names := [(".0", .local), ("row", .local), ("tuple", .globalImplicit)], isGenerator := false, isCoroutine := false, more := [] } ⟨117, 17, 117, 46⟩)
def b__law_by_cells : Ss :=
 (.cons (.set "found" 2 b__law_by_cells_1 ⟨114, 4, 114, 9⟩ ⟨114, 4, 114, 43⟩)
 (.cons (.for (.tp (.cons (.nm "r" 3 ⟨115, 8, 115, 9⟩) (.cons (.nm "c" 4 ⟨115, 11, 115, 12⟩) (.cons (.nm "sign" 5 ⟨115, 14, 115, 18⟩) .nil))) ⟨115, 8, 115, 18⟩) (.of (.var "cells" 1 ⟨115, 22, 115, 27⟩))
 b__law_by_cells_2 ⟨115, 4, 116, 26⟩)
 (.cons (.ret (.b1 .tuple b__law_by_cells_3 ⟨117, 11, 117, 16⟩ ⟨117, 11, 117, 47⟩) ⟨117, 4, 117, 47⟩)
 .nil)))
def S__law_by_cells : Stmt := PySem.Challenge.pw_squarehouse_k04_whole_faces_of_squares.main.body.getD 31 (.Pass ⟨0, 0, 0, 0⟩)
def N__law_by_cells : List Str := ["n", "cells", "found", "r", "c", "sign", "place", "row"]
def P__law_by_cells : List Str := ["n", "cells"]
def F__law_by_cells : Fn := ⟨"_law_by_cells", [.own .sh, .own .sh], .sh, 1, run T__law_by_cells 8 2 b__law_by_cells⟩
def T__law_all : List Fn := T__law_by_cells ++ [F__law_by_cells]
theorem e__law_by_cells : defBody S__law_by_cells = pySs b__law_by_cells := by kernel_rfl
abbrev G__law_by_cells : Sg := ⟨T__law_by_cells, aGT, N__law_by_cells, 0, []⟩
theorem c__law_by_cells : ckDef G__law_by_cells aE0 (defScope S__law_by_cells) F__law_by_cells b__law_by_cells = true := by decide +kernel
/-! _law_all -/
def b__law_all_1 : E :=
 (.lc (.nm "one" 5 ⟨123, 48, 123, 51⟩) (.rng (.cons (.var "n" 0 ⟨123, 61, 123, 62⟩) .nil) ⟨123, 55, 123, 60⟩ ⟨123, 55, 123, 63⟩) (.some (.cmp .NotIn (.var "one" 5 ⟨123, 67, 123, 70⟩) (.var "row" 4 ⟨123, 78, 123, 81⟩) ⟨123, 67, 123, 81⟩)) (.bop .sh .Add (.var "row" 4 ⟨123, 31, 123, 34⟩) (.tup (.cons (.var "one" 5 ⟨123, 38, 123, 41⟩) .nil) ⟨123, 37, 123, 43⟩) ⟨123, 31, 123, 43⟩) [("one", 5)] { kind := .function, names := [(".0", .local), ("one", .local), ("row", .free)], isGenerator := false, isCoroutine := false, more := [] } ⟨123, 30, 123, 82⟩)
def b__law_all_2 : Ss :=
 (.cons (.set "longer" 3 (.frz (.bop (.ls .sh) .Add (.var "longer" 3 ⟨123, 21, 123, 27⟩) b__law_all_1 ⟨123, 21, 123, 82⟩)) ⟨123, 12, 123, 18⟩ ⟨123, 12, 123, 82⟩)
 .nil)
def b__law_all_3 : Ss :=
 (.cons (.set "longer" 3 (.frz (.lst .sh .nil ⟨121, 17, 121, 19⟩)) ⟨121, 8, 121, 14⟩ ⟨121, 8, 121, 19⟩)
 (.cons (.for (.nm "row" 4 ⟨122, 12, 122, 15⟩) (.of (.var "found" 1 ⟨122, 19, 122, 24⟩))
 b__law_all_2 ⟨122, 8, 123, 82⟩)
 (.cons (.set "found" 1 (.var "longer" 3 ⟨124, 16, 124, 22⟩) ⟨124, 8, 124, 13⟩ ⟨124, 8, 124, 22⟩)
 .nil)))
def b__law_all : Ss :=
 (.cons (.set "found" 1 (.frz (.lst .sh (.cons (.tup .nil ⟨119, 13, 119, 15⟩) .nil) ⟨119, 12, 119, 16⟩)) ⟨119, 4, 119, 9⟩ ⟨119, 4, 119, 16⟩)
 (.cons (.for (.nm "step" 2 ⟨120, 8, 120, 12⟩) (.rng (.cons (.var "n" 0 ⟨120, 22, 120, 23⟩) .nil) ⟨120, 16, 120, 21⟩ ⟨120, 16, 120, 24⟩)
 b__law_all_3 ⟨120, 4, 124, 22⟩)
 (.cons (.ret (.var "found" 1 ⟨125, 11, 125, 16⟩) ⟨125, 4, 125, 16⟩)
 .nil)))
def S__law_all : Stmt := PySem.Challenge.pw_squarehouse_k04_whole_faces_of_squares.main.body.getD 32 (.Pass ⟨0, 0, 0, 0⟩)
def N__law_all : List Str := ["n", "found", "step", "longer", "row", "one"]
def P__law_all : List Str := ["n"]
def F__law_all : Fn := ⟨"_law_all", [.own .sh], .sh, 1, run T__law_all 6 1 b__law_all⟩
def T__law_bad : List Fn := T__law_all ++ [F__law_all]
theorem e__law_all : defBody S__law_all = pySs b__law_all := by kernel_rfl
abbrev G__law_all : Sg := ⟨T__law_all, aGT, N__law_all, 0, []⟩
theorem c__law_all : ckDef G__law_all aE0 (defScope S__law_all) F__law_all b__law_all = true := by decide +kernel
/-! _law_bad -/
def b__law_bad_1 : E :=
 (.lc (.nm "row" 4 ⟨127, 26, 127, 29⟩) (.of (.var "square" 1 ⟨127, 33, 127, 39⟩)) .none (.frz (.b1 .list (.var "row" 4 ⟨127, 17, 127, 20⟩) ⟨127, 12, 127, 16⟩ ⟨127, 12, 127, 21⟩)) [("row", 4)] { kind := .function, names := [(".0", .local), ("row", .local), ("list", .globalImplicit)], isGenerator := false, isCoroutine := false, more := [] } ⟨127, 11, 127, 40⟩)
def b__law_bad : Ss :=
 (.cons (.set "rows" 2 b__law_bad_1 ⟨127, 4, 127, 8⟩ ⟨127, 4, 127, 40⟩)
 (.cons (.frz 2)
 (.cons (.set "some" 3 (.frz (.lst .sh (.cons (.non ⟨128, 12, 128, 16⟩) (.cons (.tup .nil ⟨128, 18, 128, 20⟩) (.cons (.int 0 ⟨128, 22, 128, 23⟩) (.cons (.dct0 ⟨128, 25, 128, 27⟩) (.cons (.frz (.b1 .list (.var "square" 1 ⟨128, 34, 128, 40⟩) ⟨128, 29, 128, 33⟩ ⟨128, 29, 128, 41⟩)) (.cons (.bop .sh .Add (.var "square" 1 ⟨128, 43, 128, 49⟩) (.slc .sh (.var "square" 1 ⟨128, 52, 128, 58⟩) .none (.some (.int 1 ⟨128, 60, 128, 61⟩)) ⟨128, 59, 128, 61⟩ ⟨128, 52, 128, 62⟩) ⟨128, 43, 128, 62⟩) (.cons (.b1 .tuple (.var "rows" 2 ⟨128, 70, 128, 74⟩) ⟨128, 64, 128, 69⟩ ⟨128, 64, 128, 75⟩) (.cons (.tup (.cons (.tup (.cons (.int 0 ⟨128, 79, 128, 80⟩) (.cons (.int 1 ⟨128, 82, 128, 83⟩) .nil)) ⟨128, 78, 128, 84⟩) (.cons (.tup (.cons (.int 0 ⟨128, 87, 128, 88⟩) (.cons (.int 1 ⟨128, 90, 128, 91⟩) .nil)) ⟨128, 86, 128, 92⟩) .nil)) ⟨128, 77, 128, 93⟩) (.cons (.tup (.cons (.tup (.cons (.int 0 ⟨128, 97, 128, 98⟩) (.cons (.int 0 ⟨128, 100, 128, 101⟩) .nil)) ⟨128, 96, 128, 102⟩) (.cons (.tup (.cons (.int 1 ⟨128, 105, 128, 106⟩) (.cons (.int 1 ⟨128, 108, 128, 109⟩) .nil)) ⟨128, 104, 128, 110⟩) .nil)) ⟨128, 95, 128, 111⟩) .nil))))))))) ⟨128, 11, 128, 112⟩)) ⟨128, 4, 128, 8⟩ ⟨128, 4, 128, 112⟩)
 (.cons (.ret (.call 17 "_law_any" (.cons (.var "hand" 0 ⟨129, 20, 129, 24⟩) (.cons (.frz (.bop (.ls .sh) .Add (.var "some" 3 ⟨129, 26, 129, 30⟩) (.lst .sh (.cons (.tup (.cons (.tup (.cons (.bl true ⟨129, 36, 129, 40⟩) (.cons (.int 0 ⟨129, 42, 129, 43⟩) .nil)) ⟨129, 35, 129, 44⟩) (.cons (.tup (.cons (.int 0 ⟨129, 47, 129, 48⟩) (.cons (.int 1 ⟨129, 50, 129, 51⟩) .nil)) ⟨129, 46, 129, 52⟩) .nil)) ⟨129, 34, 129, 53⟩) (.cons (.tup (.cons (.tup (.cons (.int 1 ⟨129, 57, 129, 58⟩) .nil) ⟨129, 56, 129, 60⟩) .nil) ⟨129, 55, 129, 62⟩) (.cons (.ife (.cmp .Gt (.b1 .len (.var "square" 1 ⟨129, 82, 129, 88⟩) ⟨129, 78, 129, 81⟩ ⟨129, 78, 129, 89⟩) (.int 1 ⟨129, 92, 129, 93⟩) ⟨129, 78, 129, 93⟩) (.slc .sh (.var "square" 1 ⟨129, 64, 129, 70⟩) (.some (.int 1 ⟨129, 71, 129, 72⟩)) .none ⟨129, 71, 129, 73⟩ ⟨129, 64, 129, 74⟩) (.int 0 ⟨129, 99, 129, 100⟩) ⟨129, 64, 129, 100⟩) (.cons (.tup (.cons (.tup (.cons (.int 0 ⟨129, 104, 129, 105⟩) (.cons (.int 1 ⟨129, 107, 129, 108⟩) .nil)) ⟨129, 103, 129, 109⟩) (.cons (.tup (.cons (.int 1 ⟨129, 112, 129, 113⟩) .nil) ⟨129, 111, 129, 115⟩) .nil)) ⟨129, 102, 129, 116⟩) .nil)))) ⟨129, 33, 129, 117⟩) ⟨129, 26, 129, 117⟩)) .nil)) ⟨129, 11, 129, 19⟩ ⟨129, 11, 129, 118⟩) ⟨129, 4, 129, 118⟩)
 .nil))))
def S__law_bad : Stmt := PySem.Challenge.pw_squarehouse_k04_whole_faces_of_squares.main.body.getD 33 (.Pass ⟨0, 0, 0, 0⟩)
def N__law_bad : List Str := ["hand", "square", "rows", "some", "row"]
def P__law_bad : List Str := ["hand", "square"]
def F__law_bad : Fn := ⟨"_law_bad", [.ref (.ls .sh), .own .sh], .sh, 3, run T__law_bad 5 2 b__law_bad⟩
def T__law_word : List Fn := T__law_bad ++ [F__law_bad]
theorem e__law_bad : defBody S__law_bad = pySs b__law_bad := by kernel_rfl
abbrev G__law_bad : Sg := ⟨T__law_bad, aGT, N__law_bad, 2, []⟩
theorem c__law_bad : ckDef G__law_bad aE0 (defScope S__law_bad) F__law_bad b__law_bad = true := by decide +kernel
/-- _law_word -/
def S__law_word : Stmt := PySem.Challenge.pw_squarehouse_k04_whole_faces_of_squares.main.body.getD 34 (.Pass ⟨0, 0, 0, 0⟩)
def W__law_word : Wd := { N := ["call", "word", "e", "flags", "names"], a := "call", sc := defScope S__law_word, pre := (.cons (.set "word" 1 (.str "let" ⟨131, 11, 131, 16⟩) ⟨131, 4, 131, 8⟩ ⟨131, 4, 131, 16⟩) .nil), hs := [⟨"TooMany", "e", 2, (.set "word" 1 (.fld "e" 2 "most" ⟨135, 15, 135, 16⟩ ⟨135, 15, 135, 21⟩) ⟨135, 8, 135, 12⟩ ⟨135, 8, 135, 21⟩), .nil, ⟨134, 11, 134, 18⟩, ⟨134, 4, 135, 21⟩⟩, ⟨"SquareError", "e", 2, (.set "flags" 3 (.lst (.cons (.isi "e" 2 "NoFace" ⟨137, 17, 137, 27⟩ ⟨137, 28, 137, 29⟩ ⟨137, 31, 137, 37⟩ ⟨137, 17, 137, 38⟩) (.cons (.isi "e" 2 "NoSquare" ⟨137, 40, 137, 50⟩ ⟨137, 51, 137, 52⟩ ⟨137, 54, 137, 62⟩ ⟨137, 40, 137, 63⟩) .nil)) ⟨137, 16, 137, 64⟩) ⟨137, 8, 137, 13⟩ ⟨137, 8, 137, 64⟩), (.cons (.set "names" 4 (.lst (.cons (.str "face" ⟨138, 17, 138, 23⟩) (.cons (.str "square" ⟨138, 25, 138, 33⟩) .nil)) ⟨138, 16, 138, 34⟩) ⟨138, 8, 138, 13⟩ ⟨138, 8, 138, 34⟩) (.cons (.set "word" 1 (.ife (.eq (.cnt "flags" 3 ⟨139, 43, 139, 48⟩ (.bl true ⟨139, 55, 139, 59⟩) ⟨139, 43, 139, 54⟩ ⟨139, 43, 139, 60⟩) (.int 1 ⟨139, 64, 139, 65⟩) ⟨139, 43, 139, 65⟩) (.sub (.var "names" 4 ⟨139, 15, 139, 20⟩) (.idx "flags" 3 ⟨139, 21, 139, 26⟩ (.bl true ⟨139, 33, 139, 37⟩) ⟨139, 21, 139, 32⟩ ⟨139, 21, 139, 38⟩) ⟨139, 15, 139, 39⟩) (.str "other" ⟨139, 71, 139, 78⟩) ⟨139, 15, 139, 78⟩) ⟨139, 8, 139, 12⟩ ⟨139, 8, 139, 78⟩) .nil)), ⟨136, 11, 136, 22⟩, ⟨136, 4, 139, 78⟩⟩], post := (.cons (.ret (.var "word" 1 ⟨140, 11, 140, 15⟩) ⟨140, 4, 140, 15⟩) .nil), p1 := ⟨133, 8, 133, 12⟩, p2 := ⟨133, 8, 133, 14⟩, p3 := ⟨133, 8, 133, 14⟩, p4 := ⟨132, 4, 139, 78⟩ }
def F__law_word : Fn := wdFn "_law_word" aFN aET W__law_word
def T__law_turned : List Fn := T__law_word ++ [F__law_word]
theorem e__law_word : defBody S__law_word = W__law_word.py := by kernel_rfl
theorem c__law_word : wdB W__law_word aET = true := by decide +kernel
/-! _law_turned -/
def b__law_turned_1 : E :=
 (.lc (.nm "cell" 2 ⟨142, 89, 142, 93⟩) (.of (.call 21 "_law_cells" (.cons (.var "square" 0 ⟨142, 108, 142, 114⟩) .nil) ⟨142, 97, 142, 107⟩ ⟨142, 97, 142, 115⟩)) .none (.tup (.cons (.sub (.var "cell" 2 ⟨142, 40, 142, 44⟩) (.sub (.var "face" 1 ⟨142, 45, 142, 49⟩) (.int 0 ⟨142, 50, 142, 51⟩) ⟨142, 45, 142, 52⟩) ⟨142, 40, 142, 53⟩) (.cons (.sub (.var "cell" 2 ⟨142, 55, 142, 59⟩) (.sub (.var "face" 1 ⟨142, 60, 142, 64⟩) (.int 1 ⟨142, 65, 142, 66⟩) ⟨142, 60, 142, 67⟩) ⟨142, 55, 142, 68⟩) (.cons (.sub (.var "cell" 2 ⟨142, 70, 142, 74⟩) (.sub (.var "face" 1 ⟨142, 75, 142, 79⟩) (.int 2 ⟨142, 80, 142, 81⟩) ⟨142, 75, 142, 82⟩) ⟨142, 70, 142, 83⟩) .nil))) ⟨142, 39, 142, 84⟩) [("cell", 2)] { kind := .function, names := [(".0", .local), ("cell", .local), ("face", .free)], isGenerator := false, isCoroutine := false, more := [] } ⟨142, 38, 142, 116⟩)
def b__law_turned : Ss :=
 (.cons (.ret (.call 22 "_law_by_cells" (.cons (.b1 .len (.var "square" 0 ⟨142, 29, 142, 35⟩) ⟨142, 25, 142, 28⟩ ⟨142, 25, 142, 36⟩) (.cons (.frz b__law_turned_1) .nil)) ⟨142, 11, 142, 24⟩ ⟨142, 11, 142, 117⟩) ⟨142, 4, 142, 117⟩)
 .nil)
def S__law_turned : Stmt := PySem.Challenge.pw_squarehouse_k04_whole_faces_of_squares.main.body.getD 35 (.Pass ⟨0, 0, 0, 0⟩)
def N__law_turned : List Str := ["square", "face", "cell"]
def P__law_turned : List Str := ["square", "face"]
def F__law_turned : Fn := ⟨"_law_turned", [.own .sh, .own .sh], .sh, 2, run T__law_turned 3 2 b__law_turned⟩
def T_law : List Fn := T__law_turned ++ [F__law_turned]
theorem e__law_turned : defBody S__law_turned = pySs b__law_turned := by kernel_rfl
abbrev G__law_turned : Sg := ⟨T__law_turned, aGT, N__law_turned, 1, []⟩
theorem c__law_turned : ckDef G__law_turned aE0 (defScope S__law_turned) F__law_turned b__law_turned = true := by decide +kernel
/-! law -/
def b_law_1 : Ss :=
 (.cons (.set "there" 6 (.call 26 "_law_turned" (.cons (.var "square" 14 ⟨150, 32, 150, 38⟩) (.cons (.var "face" 5 ⟨150, 40, 150, 44⟩) .nil)) ⟨150, 20, 150, 31⟩ ⟨150, 20, 150, 45⟩) ⟨150, 12, 150, 17⟩ ⟨150, 12, 150, 45⟩)
 (.cons (.set "own" 4 (.frz (.bop (.ls .sh) .Add (.var "own" 4 ⟨151, 18, 151, 21⟩) (.ife (.cmp .Eq (.var "there" 6 ⟨151, 35, 151, 40⟩) (.var "square" 14 ⟨151, 44, 151, 50⟩) ⟨151, 35, 151, 50⟩) (.lst .sh (.cons (.var "face" 5 ⟨151, 26, 151, 30⟩) .nil) ⟨151, 25, 151, 31⟩) (.lst .sh .nil ⟨151, 56, 151, 58⟩) ⟨151, 25, 151, 58⟩) ⟨151, 18, 151, 59⟩)) ⟨151, 12, 151, 15⟩ ⟨151, 12, 151, 59⟩)
 (.cons (.ife (.or (.cons (.cmp .NotEq (.call 11 "turned" (.cons (.var "square" 14 ⟨152, 22, 152, 28⟩) (.cons (.var "face" 5 ⟨152, 30, 152, 34⟩) .nil)) ⟨152, 15, 152, 21⟩ ⟨152, 15, 152, 35⟩) (.var "there" 6 ⟨152, 39, 152, 44⟩) ⟨152, 15, 152, 44⟩) (.cons (.cmp .IsNot (.call 5 "is_square" (.cons (.var "there" 6 ⟨152, 58, 152, 63⟩) .nil) ⟨152, 48, 152, 57⟩ ⟨152, 48, 152, 64⟩) (.bl true ⟨152, 72, 152, 76⟩) ⟨152, 48, 152, 76⟩) .nil)) ⟨152, 15, 152, 76⟩)
 (.cons (.ret (.bl false ⟨153, 23, 153, 28⟩) ⟨153, 16, 153, 28⟩)
 .nil)
 .nil ⟨152, 12, 153, 28⟩)
 .nil)))
def b_law_2 : E :=
 (.lc (.nm "b" 16 ⟨160, 53, 160, 54⟩) (.of (.var "own" 4 ⟨160, 58, 160, 61⟩)) .none (.cmp .In (.call 12 "after_face" (.cons (.var "a" 15 ⟨160, 36, 160, 37⟩) (.cons (.var "b" 16 ⟨160, 39, 160, 40⟩) .nil)) ⟨160, 25, 160, 35⟩ ⟨160, 25, 160, 41⟩) (.var "own" 4 ⟨160, 45, 160, 48⟩) ⟨160, 25, 160, 48⟩) [("b", 16)] { kind := .function, names := [(".0", .local), ("b", .local), ("after_face", .globalImplicit), ("a", .free), ("own", .free)], isGenerator := false, isCoroutine := false, more := [] } ⟨160, 24, 160, 62⟩)
def b_law_3 : E :=
 (.lc (.nm "a" 15 ⟨160, 68, 160, 69⟩) (.of (.var "own" 4 ⟨160, 73, 160, 76⟩)) .none (.b1 .all b_law_2 ⟨160, 20, 160, 23⟩ ⟨160, 20, 160, 63⟩) [("a", 15)] { kind := .function, names := [(".0", .local), ("a", .cell), ("all", .globalImplicit), ("own", .free)], isGenerator := false, isCoroutine := false, more := [] } ⟨160, 19, 160, 77⟩)
def b_law_4 : Ss :=
 (.cons (.set "square" 14 (.call 20 "_law_square" (.cons (.var "hand" 1 ⟨147, 29, 147, 33⟩) (.cons (.int 6 ⟨147, 35, 147, 36⟩) .nil)) ⟨147, 17, 147, 28⟩ ⟨147, 17, 147, 37⟩) ⟨147, 8, 147, 14⟩ ⟨147, 8, 147, 37⟩)
 (.cons (.set "own" 4 (.frz (.lst .sh .nil ⟨148, 14, 148, 16⟩)) ⟨148, 8, 148, 11⟩ ⟨148, 8, 148, 16⟩)
 (.cons (.for (.nm "face" 5 ⟨149, 12, 149, 16⟩) (.of (.var "faces" 2 ⟨149, 20, 149, 25⟩))
 b_law_1 ⟨149, 8, 153, 28⟩)
 (.cons (.ife (.cmp .NotEq (.call 14 "own_faces" (.cons (.var "square" 14 ⟨154, 21, 154, 27⟩) .nil) ⟨154, 11, 154, 20⟩ ⟨154, 11, 154, 28⟩) (.b1 .tuple (.var "own" 4 ⟨154, 38, 154, 41⟩) ⟨154, 32, 154, 37⟩ ⟨154, 32, 154, 42⟩) ⟨154, 11, 154, 42⟩)
 (.cons (.ret (.bl false ⟨155, 19, 155, 24⟩) ⟨155, 12, 155, 24⟩)
 .nil)
 .nil ⟨154, 8, 155, 24⟩)
 (.cons (.setT (.tp (.cons (.nm "one" 13 ⟨156, 8, 156, 11⟩) (.cons (.nm "other" 7 ⟨156, 13, 156, 18⟩) .nil)) ⟨156, 8, 156, 18⟩) (.tup (.cons (.call 17 "_law_any" (.cons (.var "hand" 1 ⟨156, 31, 156, 35⟩) (.cons (.var "faces" 2 ⟨156, 37, 156, 42⟩) .nil)) ⟨156, 22, 156, 30⟩ ⟨156, 22, 156, 43⟩) (.cons (.call 17 "_law_any" (.cons (.var "hand" 1 ⟨156, 54, 156, 58⟩) (.cons (.var "faces" 2 ⟨156, 60, 156, 65⟩) .nil)) ⟨156, 45, 156, 53⟩ ⟨156, 45, 156, 66⟩) .nil)) ⟨156, 21, 156, 67⟩) ⟨156, 8, 156, 67⟩)
 (.cons (.set "both" 8 (.call 12 "after_face" (.cons (.var "one" 13 ⟨157, 26, 157, 29⟩) (.cons (.var "other" 7 ⟨157, 31, 157, 36⟩) .nil)) ⟨157, 15, 157, 25⟩ ⟨157, 15, 157, 37⟩) ⟨157, 8, 157, 12⟩ ⟨157, 8, 157, 37⟩)
 (.cons (.ife (.cmp .NotEq (.call 11 "turned" (.cons (.call 11 "turned" (.cons (.var "square" 14 ⟨158, 25, 158, 31⟩) (.cons (.var "one" 13 ⟨158, 33, 158, 36⟩) .nil)) ⟨158, 18, 158, 24⟩ ⟨158, 18, 158, 37⟩) (.cons (.var "other" 7 ⟨158, 39, 158, 44⟩) .nil)) ⟨158, 11, 158, 17⟩ ⟨158, 11, 158, 45⟩) (.call 11 "turned" (.cons (.var "square" 14 ⟨158, 56, 158, 62⟩) (.cons (.var "both" 8 ⟨158, 64, 158, 68⟩) .nil)) ⟨158, 49, 158, 55⟩ ⟨158, 49, 158, 69⟩) ⟨158, 11, 158, 69⟩)
 (.cons (.ret (.bl false ⟨159, 19, 159, 24⟩) ⟨159, 12, 159, 24⟩)
 .nil)
 .nil ⟨158, 8, 159, 24⟩)
 (.cons (.ife (.or (.cons (.not (.b1 .all b_law_3 ⟨160, 15, 160, 18⟩ ⟨160, 15, 160, 78⟩) ⟨160, 11, 160, 78⟩) (.cons (.cmp .NotIn (.tup (.cons (.int 0 ⟨160, 83, 160, 84⟩) (.cons (.int 1 ⟨160, 86, 160, 87⟩) (.cons (.int 2 ⟨160, 89, 160, 90⟩) .nil))) ⟨160, 82, 160, 91⟩) (.var "own" 4 ⟨160, 99, 160, 102⟩) ⟨160, 82, 160, 102⟩) .nil)) ⟨160, 11, 160, 102⟩)
 (.cons (.ret (.bl false ⟨161, 19, 161, 24⟩) ⟨161, 12, 161, 24⟩)
 .nil)
 .nil ⟨160, 8, 161, 24⟩)
 (.cons (.set "round_one" 9 (.call 11 "turned" (.cons (.call 11 "turned" (.cons (.call 11 "turned" (.cons (.var "square" 14 ⟨162, 41, 162, 47⟩) (.cons (.tup (.cons (.int 1 ⟨162, 50, 162, 51⟩) (.cons (.int 2 ⟨162, 53, 162, 54⟩) (.cons (.int 0 ⟨162, 56, 162, 57⟩) .nil))) ⟨162, 49, 162, 58⟩) .nil)) ⟨162, 34, 162, 40⟩ ⟨162, 34, 162, 59⟩) (.cons (.tup (.cons (.int 1 ⟨162, 62, 162, 63⟩) (.cons (.int 2 ⟨162, 65, 162, 66⟩) (.cons (.int 0 ⟨162, 68, 162, 69⟩) .nil))) ⟨162, 61, 162, 70⟩) .nil)) ⟨162, 27, 162, 33⟩ ⟨162, 27, 162, 71⟩) (.cons (.tup (.cons (.int 1 ⟨162, 74, 162, 75⟩) (.cons (.int 2 ⟨162, 77, 162, 78⟩) (.cons (.int 0 ⟨162, 80, 162, 81⟩) .nil))) ⟨162, 73, 162, 82⟩) .nil)) ⟨162, 20, 162, 26⟩ ⟨162, 20, 162, 83⟩) ⟨162, 8, 162, 17⟩ ⟨162, 8, 162, 83⟩)
 (.cons (.ife (.or (.cons (.cmp .NotEq (.var "round_one" 9 ⟨163, 11, 163, 20⟩) (.var "square" 14 ⟨163, 24, 163, 30⟩) ⟨163, 11, 163, 30⟩) (.cons (.cmp .NotEq (.call 11 "turned" (.cons (.call 11 "turned" (.cons (.var "square" 14 ⟨163, 48, 163, 54⟩) (.cons (.tup (.cons (.int 1 ⟨163, 57, 163, 58⟩) (.cons (.int 0 ⟨163, 60, 163, 61⟩) (.cons (.int 2 ⟨163, 63, 163, 64⟩) .nil))) ⟨163, 56, 163, 65⟩) .nil)) ⟨163, 41, 163, 47⟩ ⟨163, 41, 163, 66⟩) (.cons (.tup (.cons (.int 1 ⟨163, 69, 163, 70⟩) (.cons (.int 0 ⟨163, 72, 163, 73⟩) (.cons (.int 2 ⟨163, 75, 163, 76⟩) .nil))) ⟨163, 68, 163, 77⟩) .nil)) ⟨163, 34, 163, 40⟩ ⟨163, 34, 163, 78⟩) (.var "square" 14 ⟨163, 82, 163, 88⟩) ⟨163, 34, 163, 88⟩) .nil)) ⟨163, 11, 163, 88⟩)
 (.cons (.ret (.bl false ⟨164, 19, 164, 24⟩) ⟨164, 12, 164, 24⟩)
 .nil)
 .nil ⟨163, 8, 164, 24⟩)
 (.cons (.set "bad" 11 (.call 24 "_law_bad" (.cons (.var "hand" 1 ⟨165, 23, 165, 27⟩) (.cons (.var "square" 14 ⟨165, 29, 165, 35⟩) .nil)) ⟨165, 14, 165, 22⟩ ⟨165, 14, 165, 36⟩) ⟨165, 8, 165, 11⟩ ⟨165, 8, 165, 36⟩)
 (.cons (.set "off" 12 (.call 17 "_law_any" (.cons (.var "hand" 1 ⟨166, 23, 166, 27⟩) (.cons (.frz (.lst .sh (.cons (.non ⟨166, 30, 166, 34⟩) (.cons (.tup .nil ⟨166, 36, 166, 38⟩) (.cons (.tup (.cons (.int 0 ⟨166, 41, 166, 42⟩) (.cons (.int 1 ⟨166, 44, 166, 45⟩) .nil)) ⟨166, 40, 166, 46⟩) (.cons (.frz (.lst .sh (.cons (.int 0 ⟨166, 49, 166, 50⟩) (.cons (.int 1 ⟨166, 52, 166, 53⟩) (.cons (.int 2 ⟨166, 55, 166, 56⟩) .nil))) ⟨166, 48, 166, 57⟩)) (.cons (.tup (.cons (.int 0 ⟨166, 60, 166, 61⟩) (.cons (.int 1 ⟨166, 63, 166, 64⟩) (.cons (.int 1 ⟨166, 66, 166, 67⟩) .nil))) ⟨166, 59, 166, 68⟩) (.cons (.tup (.cons (.int 0 ⟨166, 71, 166, 72⟩) (.cons (.int 1 ⟨166, 74, 166, 75⟩) (.cons (.int 3 ⟨166, 77, 166, 78⟩) .nil))) ⟨166, 70, 166, 79⟩) (.cons (.tup (.cons (.int 0 ⟨166, 82, 166, 83⟩) (.cons (.bl true ⟨166, 85, 166, 89⟩) (.cons (.int 2 ⟨166, 91, 166, 92⟩) .nil))) ⟨166, 81, 166, 93⟩) (.cons (.int 0 ⟨166, 95, 166, 96⟩) .nil)))))))) ⟨166, 29, 166, 97⟩)) .nil)) ⟨166, 14, 166, 22⟩ ⟨166, 14, 166, 98⟩) ⟨166, 8, 166, 11⟩ ⟨166, 8, 166, 98⟩)
 (.cons (.set "words" 10 (.lst .sh (.cons (.wrd 25 "_law_word" (.call 11 "turned" (.cons (.var "bad" 11 ⟨167, 42, 167, 45⟩) (.cons (.var "off" 12 ⟨167, 47, 167, 50⟩) .nil)) ⟨167, 35, 167, 41⟩ ⟨167, 35, 167, 51⟩) { kind := .function, names := [("bad", .free), ("off", .free), ("turned", .globalImplicit)], isGenerator := false, isCoroutine := false, more := [] } ⟨167, 27, 167, 51⟩ ⟨167, 17, 167, 26⟩ ⟨167, 17, 167, 52⟩) .nil) ⟨167, 16, 167, 53⟩) ⟨167, 8, 167, 13⟩ ⟨167, 8, 167, 53⟩)
 (.cons (.exp (.mut .append (.nm "words" 10 ⟨168, 8, 168, 13⟩) (.cons (.wrd 25 "_law_word" (.call 11 "turned" (.cons (.var "square" 14 ⟨168, 46, 168, 52⟩) (.cons (.var "off" 12 ⟨168, 54, 168, 57⟩) .nil)) ⟨168, 39, 168, 45⟩ ⟨168, 39, 168, 58⟩) { kind := .function, names := [("off", .free), ("square", .free), ("turned", .globalImplicit)], isGenerator := false, isCoroutine := false, more := [] } ⟨168, 31, 168, 58⟩ ⟨168, 21, 168, 30⟩ ⟨168, 21, 168, 59⟩) .nil) ⟨168, 8, 168, 20⟩ ⟨168, 8, 168, 60⟩) ⟨168, 8, 168, 60⟩)
 (.cons (.exp (.mut .append (.nm "words" 10 ⟨169, 8, 169, 13⟩) (.cons (.wrd 25 "_law_word" (.call 12 "after_face" (.cons (.var "off" 12 ⟨169, 50, 169, 53⟩) (.cons (.var "one" 13 ⟨169, 55, 169, 58⟩) .nil)) ⟨169, 39, 169, 49⟩ ⟨169, 39, 169, 59⟩) { kind := .function, names := [("off", .free), ("one", .free), ("after_face", .globalImplicit)], isGenerator := false, isCoroutine := false, more := [] } ⟨169, 31, 169, 59⟩ ⟨169, 21, 169, 30⟩ ⟨169, 21, 169, 60⟩) .nil) ⟨169, 8, 169, 20⟩ ⟨169, 8, 169, 61⟩) ⟨169, 8, 169, 61⟩)
 (.cons (.exp (.mut .append (.nm "words" 10 ⟨170, 8, 170, 13⟩) (.cons (.wrd 25 "_law_word" (.call 12 "after_face" (.cons (.var "one" 13 ⟨170, 50, 170, 53⟩) (.cons (.var "off" 12 ⟨170, 55, 170, 58⟩) .nil)) ⟨170, 39, 170, 49⟩ ⟨170, 39, 170, 59⟩) { kind := .function, names := [("off", .free), ("one", .free), ("after_face", .globalImplicit)], isGenerator := false, isCoroutine := false, more := [] } ⟨170, 31, 170, 59⟩ ⟨170, 21, 170, 30⟩ ⟨170, 21, 170, 60⟩) .nil) ⟨170, 8, 170, 20⟩ ⟨170, 8, 170, 61⟩) ⟨170, 8, 170, 61⟩)
 (.cons (.exp (.mut .append (.nm "words" 10 ⟨171, 8, 171, 13⟩) (.cons (.wrd 25 "_law_word" (.call 14 "own_faces" (.cons (.var "bad" 11 ⟨171, 49, 171, 52⟩) .nil) ⟨171, 39, 171, 48⟩ ⟨171, 39, 171, 53⟩) { kind := .function, names := [("bad", .free), ("own_faces", .globalImplicit)], isGenerator := false, isCoroutine := false, more := [] } ⟨171, 31, 171, 53⟩ ⟨171, 21, 171, 30⟩ ⟨171, 21, 171, 54⟩) .nil) ⟨171, 8, 171, 20⟩ ⟨171, 8, 171, 55⟩) ⟨171, 8, 171, 55⟩)
 (.cons (.ife (.cmp .NotEq (.var "words" 10 ⟨172, 11, 172, 16⟩) (.lst .sh (.cons (.str "square" ⟨172, 21, 172, 29⟩) (.cons (.str "face" ⟨172, 31, 172, 37⟩) (.cons (.str "face" ⟨172, 39, 172, 45⟩) (.cons (.str "face" ⟨172, 47, 172, 53⟩) (.cons (.str "square" ⟨172, 55, 172, 63⟩) .nil))))) ⟨172, 20, 172, 64⟩) ⟨172, 11, 172, 64⟩)
 (.cons (.ret (.bl false ⟨173, 19, 173, 24⟩) ⟨173, 12, 173, 24⟩)
 .nil)
 .nil ⟨172, 8, 173, 24⟩)
 .nil))))))))))))))))))
def b_law : Ss :=
 (.cons (.set "hand" 1 (.call 15 "_law_hand" (.cons (.var "script" 0 ⟨144, 21, 144, 27⟩) .nil) ⟨144, 11, 144, 20⟩ ⟨144, 11, 144, 28⟩) ⟨144, 4, 144, 8⟩ ⟨144, 4, 144, 28⟩)
 (.cons (.set "faces" 2 (.call 23 "_law_all" (.cons (.int 3 ⟨145, 21, 145, 22⟩) .nil) ⟨145, 12, 145, 20⟩ ⟨145, 12, 145, 23⟩) ⟨145, 4, 145, 9⟩ ⟨145, 4, 145, 23⟩)
 (.cons (.for (.nm "turn" 3 ⟨146, 8, 146, 12⟩) (.rng (.cons (.int 3 ⟨146, 22, 146, 23⟩) .nil) ⟨146, 16, 146, 21⟩ ⟨146, 16, 146, 24⟩)
 b_law_4 ⟨146, 4, 173, 24⟩)
 (.cons (.ret (.bl true ⟨174, 11, 174, 15⟩) ⟨174, 4, 174, 15⟩)
 .nil))))
def S_law : Stmt := PySem.Challenge.pw_squarehouse_k04_whole_faces_of_squares.main.body.getD 36 (.Pass ⟨0, 0, 0, 0⟩)
def N_law : List Str := ["script", "hand", "faces", "turn", "own", "face", "there", "other", "both", "round_one", "words", "bad", "off", "one", "square", "a", "b"]
def P_law : List Str := ["script"]
def F_law : Fn := ⟨"law", [.bor .ks], .sh, 9, run T_law 17 1 b_law⟩
def T_end : List Fn := T_law ++ [F_law]
theorem e_law : defBody S_law = pySs b_law := by kernel_rfl
abbrev G_law : Sg := ⟨T_law, aGT, N_law, 8, [25]⟩
theorem c_law : ckDef G_law aE0 (defScope S_law) F_law b_law = true := by decide +kernel
/-! ### the head -/
def D_is_integer : He.DefD := ⟨("is_integer", none), "is_integer", "is_integer", defArgs S_is_integer, defBody S_is_integer, defScope S_is_integer, [], []⟩
def D_is_within : He.DefD := ⟨("is_within", none), "is_within", "is_within", defArgs S_is_within, defBody S_is_within, defScope S_is_within, [], []⟩
def D_is_sized : He.DefD := ⟨("is_sized", none), "is_sized", "is_sized", defArgs S_is_sized, defBody S_is_sized, defScope S_is_sized, [], []⟩
def D_are_all : He.DefD := ⟨("are_all", none), "are_all", "are_all", defArgs S_are_all, defBody S_are_all, defScope S_are_all, [], []⟩
def D_are_columns : He.DefD := ⟨("are_columns", none), "are_columns", "are_columns", defArgs S_are_columns, defBody S_are_columns, defScope S_are_columns, [], []⟩
def D_is_square : He.DefD := ⟨("is_square", none), "is_square", "is_square", defArgs S_is_square, defBody S_is_square, defScope S_is_square, [], []⟩
def D_check_square : He.DefD := ⟨("check_square", none), "check_square", "check_square", defArgs S_check_square, defBody S_check_square, defScope S_check_square, [], []⟩
def D_all_cells : He.DefD := ⟨("all_cells", none), "all_cells", "all_cells", defArgs S_all_cells, defBody S_all_cells, defScope S_all_cells, [], []⟩
def D_by_cells : He.DefD := ⟨("by_cells", none), "by_cells", "by_cells", defArgs S_by_cells, defBody S_by_cells, defScope S_by_cells, [], []⟩
def D_check_face : He.DefD := ⟨("check_face", none), "check_face", "check_face", defArgs S_check_face, defBody S_check_face, defScope S_check_face, [], []⟩
def D_raw_turned : He.DefD := ⟨("raw_turned", none), "raw_turned", "raw_turned", defArgs S_raw_turned, defBody S_raw_turned, defScope S_raw_turned, [], []⟩
def D_turned : He.DefD := ⟨("turned", none), "turned", "turned", defArgs S_turned, defBody S_turned, defScope S_turned, [], []⟩
def D_after_face : He.DefD := ⟨("after_face", none), "after_face", "after_face", defArgs S_after_face, defBody S_after_face, defScope S_after_face, [], []⟩
def D_all_faces : He.DefD := ⟨("all_faces", none), "all_faces", "all_faces", defArgs S_all_faces, defBody S_all_faces, defScope S_all_faces, [], []⟩
def D_own_faces : He.DefD := ⟨("own_faces", none), "own_faces", "own_faces", defArgs S_own_faces, defBody S_own_faces, defScope S_own_faces, [], []⟩
def D__law_hand : He.DefD := ⟨("_law_hand", none), "_law_hand", "_law_hand", defArgs S__law_hand, defBody S__law_hand, defScope S__law_hand, [], []⟩
def D__law_draw : He.DefD := ⟨("_law_draw", none), "_law_draw", "_law_draw", defArgs S__law_draw, defBody S__law_draw, defScope S__law_draw, [], []⟩
def D__law_any : He.DefD := ⟨("_law_any", none), "_law_any", "_law_any", defArgs S__law_any, defBody S__law_any, defScope S__law_any, [], []⟩
def D__law_names : He.DefD := ⟨("_law_names", none), "_law_names", "_law_names", defArgs S__law_names, defBody S__law_names, defScope S__law_names, [], []⟩
def D__law_moved : He.DefD := ⟨("_law_moved", none), "_law_moved", "_law_moved", defArgs S__law_moved, defBody S__law_moved, defScope S__law_moved, [], []⟩
def D__law_square : He.DefD := ⟨("_law_square", none), "_law_square", "_law_square", defArgs S__law_square, defBody S__law_square, defScope S__law_square, [], []⟩
def D__law_cells : He.DefD := ⟨("_law_cells", none), "_law_cells", "_law_cells", defArgs S__law_cells, defBody S__law_cells, defScope S__law_cells, [], []⟩
def D__law_by_cells : He.DefD := ⟨("_law_by_cells", none), "_law_by_cells", "_law_by_cells", defArgs S__law_by_cells, defBody S__law_by_cells, defScope S__law_by_cells, [], []⟩
def D__law_all : He.DefD := ⟨("_law_all", none), "_law_all", "_law_all", defArgs S__law_all, defBody S__law_all, defScope S__law_all, [], []⟩
def D__law_bad : He.DefD := ⟨("_law_bad", none), "_law_bad", "_law_bad", defArgs S__law_bad, defBody S__law_bad, defScope S__law_bad, [], []⟩
def D__law_word : He.DefD := ⟨("_law_word", none), "_law_word", "_law_word", defArgs S__law_word, defBody S__law_word, defScope S__law_word, [], []⟩
def D__law_turned : He.DefD := ⟨("_law_turned", none), "_law_turned", "_law_turned", defArgs S__law_turned, defBody S__law_turned, defScope S__law_turned, [], []⟩
def D_law : He.DefD := ⟨("law", none), "law", "law", defArgs S_law, defBody S_law, defScope S_law, [], []⟩
abbrev afn : List He.DefD := [D_is_integer, D_is_within, D_is_sized, D_are_all, D_are_columns, D_is_square, D_check_square, D_all_cells, D_by_cells, D_check_face, D_raw_turned, D_turned, D_after_face, D_all_faces, D_own_faces, D__law_hand, D__law_draw, D__law_any, D__law_names, D__law_moved, D__law_square, D__law_cells, D__law_by_cells, D__law_all, D__law_bad, D__law_word, D__law_turned, D_law]
abbrev afa : List He.Fa := [.glo "is_integer", .glo "is_within", .glo "is_sized", .glo "are_all", .glo "are_columns", .glo "is_square", .glo "check_square", .glo "all_cells", .glo "by_cells", .glo "check_face", .glo "raw_turned", .glo "turned", .glo "after_face", .glo "all_faces", .glo "own_faces", .glo "_law_hand", .glo "_law_draw", .glo "_law_any", .glo "_law_names", .glo "_law_moved", .glo "_law_square", .glo "_law_cells", .glo "_law_by_cells", .glo "_law_all", .glo "_law_bad", .glo "_law_word", .glo "_law_turned", .glo "law", .glo "SquareError", .glo "NoFace", .glo "NoSquare", .glo "TooMany", .exc "NoFace", .exc "NoSquare", .free "len", .free "all", .free "any", .free "sorted", .free "list", .free "tuple", .free "abs", .free "int", .free "sum", .free "range", .free "isinstance", .free "bool", .free "str", .free "dict", .free "min", .free "max", .free "enumerate", .free "zip", .free "ValueError", .int "MOST_SIGNS" 6]
abbrev atf : List He.Defn := [("law", none)]
section
variable {w : World} {h : Heap} {K : PySem.W.Frag} {mg : Str → Option Value} {base : Heap} {P : Program}
theorem a_wt (A : AH afa afn atf aET aFN w h K mg) : WT K mg (bOf K atf aET aFN) aGT aE0 := wt_of A (by decide) (by decide) (by decide)
theorem o_is_integer (A : AH afa afn atf aET aFN w h K mg) (D : Defs P w K mg base (bOf K atf aET aFN) T_is_integer) : ∃ ad fd pn, DefOk P w K mg base (bOf K atf aET aFN) F_is_integer ad fd pn := by
  obtain ⟨fd, F⟩ := A.def_ (d := D_is_integer) (by simp)
  exact ⟨_, fd, P_is_integer, def_run (s := G_is_integer) (a_wt A) D F (A.glo (x := "is_integer") (by decide)) rfl rfl (by decide +kernel) e_is_integer rfl rfl c_is_integer (fun kV doc pm an cdv ct us hl => match us, hl with | [_], _ => rfl) rfl (fun j G h => by simp at h)⟩
theorem s_is_integer (A : AH afa afn atf aET aFN w h K mg) (D : Defs P w K mg base (bOf K atf aET aFN) T_is_integer) : Defs P w K mg base (bOf K atf aET aFN) T_is_within := defs_snoc D fun _ => o_is_integer A D
theorem o_is_within (A : AH afa afn atf aET aFN w h K mg) (D : Defs P w K mg base (bOf K atf aET aFN) T_is_within) : ∃ ad fd pn, DefOk P w K mg base (bOf K atf aET aFN) F_is_within ad fd pn := by
  obtain ⟨fd, F⟩ := A.def_ (d := D_is_within) (by simp)
  exact ⟨_, fd, P_is_within, def_run (s := G_is_within) (a_wt A) D F (A.glo (x := "is_within") (by decide)) rfl rfl (by decide +kernel) e_is_within rfl rfl c_is_within (fun kV doc pm an cdv ct us hl => match us, hl with | [_, _, _], _ => rfl) rfl (fun j G h => by simp at h)⟩
theorem s_is_within (A : AH afa afn atf aET aFN w h K mg) (D : Defs P w K mg base (bOf K atf aET aFN) T_is_within) : Defs P w K mg base (bOf K atf aET aFN) T_is_sized := defs_snoc D fun _ => o_is_within A D
theorem o_is_sized (A : AH afa afn atf aET aFN w h K mg) (D : Defs P w K mg base (bOf K atf aET aFN) T_is_sized) : ∃ ad fd pn, DefOk P w K mg base (bOf K atf aET aFN) F_is_sized ad fd pn := by
  obtain ⟨fd, F⟩ := A.def_ (d := D_is_sized) (by simp)
  exact ⟨_, fd, P_is_sized, def_run (s := G_is_sized) (a_wt A) D F (A.glo (x := "is_sized") (by decide)) rfl rfl (by decide +kernel) e_is_sized rfl rfl c_is_sized (fun kV doc pm an cdv ct us hl => match us, hl with | [_, _, _], _ => rfl) rfl (fun j G h => by simp at h)⟩
theorem s_is_sized (A : AH afa afn atf aET aFN w h K mg) (D : Defs P w K mg base (bOf K atf aET aFN) T_is_sized) : Defs P w K mg base (bOf K atf aET aFN) T_are_all := defs_snoc D fun _ => o_is_sized A D
theorem o_are_all (A : AH afa afn atf aET aFN w h K mg) (D : Defs P w K mg base (bOf K atf aET aFN) T_are_all) : ∃ ad fd pn, DefOk P w K mg base (bOf K atf aET aFN) F_are_all ad fd pn := by
  obtain ⟨fd, F⟩ := A.def_ (d := D_are_all) (by simp)
  exact ⟨_, fd, P_are_all, def_run (s := G_are_all) (a_wt A) D F (A.glo (x := "are_all") (by decide)) rfl rfl (by decide +kernel) e_are_all rfl rfl c_are_all (fun kV doc pm an cdv ct us hl => match us, hl with | [_, _], _ => rfl) rfl (fun j G h => by simp at h)⟩
theorem s_are_all (A : AH afa afn atf aET aFN w h K mg) (D : Defs P w K mg base (bOf K atf aET aFN) T_are_all) : Defs P w K mg base (bOf K atf aET aFN) T_are_columns := defs_snoc D fun _ => o_are_all A D
theorem o_are_columns (A : AH afa afn atf aET aFN w h K mg) (D : Defs P w K mg base (bOf K atf aET aFN) T_are_columns) : ∃ ad fd pn, DefOk P w K mg base (bOf K atf aET aFN) F_are_columns ad fd pn := by
  obtain ⟨fd, F⟩ := A.def_ (d := D_are_columns) (by simp)
  exact ⟨_, fd, P_are_columns, def_run (s := G_are_columns) (a_wt A) D F (A.glo (x := "are_columns") (by decide)) rfl rfl (by decide +kernel) e_are_columns rfl rfl c_are_columns (fun kV doc pm an cdv ct us hl => match us, hl with | [_], _ => rfl) rfl (fun j G h => by simp at h)⟩
theorem s_are_columns (A : AH afa afn atf aET aFN w h K mg) (D : Defs P w K mg base (bOf K atf aET aFN) T_are_columns) : Defs P w K mg base (bOf K atf aET aFN) T_is_square := defs_snoc D fun _ => o_are_columns A D
theorem o_is_square (A : AH afa afn atf aET aFN w h K mg) (D : Defs P w K mg base (bOf K atf aET aFN) T_is_square) : ∃ ad fd pn, DefOk P w K mg base (bOf K atf aET aFN) F_is_square ad fd pn := by
  obtain ⟨fd, F⟩ := A.def_ (d := D_is_square) (by simp)
  exact ⟨_, fd, P_is_square, def_run (s := G_is_square) (a_wt A) D F (A.glo (x := "is_square") (by decide)) rfl rfl (by decide +kernel) e_is_square rfl rfl c_is_square (fun kV doc pm an cdv ct us hl => match us, hl with | [_], _ => rfl) rfl (fun j G h => by simp at h)⟩
theorem s_is_square (A : AH afa afn atf aET aFN w h K mg) (D : Defs P w K mg base (bOf K atf aET aFN) T_is_square) : Defs P w K mg base (bOf K atf aET aFN) T_check_square := defs_snoc D fun _ => o_is_square A D
theorem o_check_square (A : AH afa afn atf aET aFN w h K mg) (D : Defs P w K mg base (bOf K atf aET aFN) T_check_square) : ∃ ad fd pn, DefOk P w K mg base (bOf K atf aET aFN) F_check_square ad fd pn := by
  obtain ⟨fd, F⟩ := A.def_ (d := D_check_square) (by simp)
  exact ⟨_, fd, P_check_square, def_run (s := G_check_square) (a_wt A) D F (A.glo (x := "check_square") (by decide)) rfl rfl (by decide +kernel) e_check_square rfl rfl c_check_square (fun kV doc pm an cdv ct us hl => match us, hl with | [_], _ => rfl) rfl (fun j G h => by simp at h)⟩
theorem s_check_square (A : AH afa afn atf aET aFN w h K mg) (D : Defs P w K mg base (bOf K atf aET aFN) T_check_square) : Defs P w K mg base (bOf K atf aET aFN) T_all_cells := defs_snoc D fun _ => o_check_square A D
theorem o_all_cells (A : AH afa afn atf aET aFN w h K mg) (D : Defs P w K mg base (bOf K atf aET aFN) T_all_cells) : ∃ ad fd pn, DefOk P w K mg base (bOf K atf aET aFN) F_all_cells ad fd pn := by
  obtain ⟨fd, F⟩ := A.def_ (d := D_all_cells) (by simp)
  exact ⟨_, fd, P_all_cells, def_run (s := G_all_cells) (a_wt A) D F (A.glo (x := "all_cells") (by decide)) rfl rfl (by decide +kernel) e_all_cells rfl rfl c_all_cells (fun kV doc pm an cdv ct us hl => match us, hl with | [_], _ => rfl) rfl (fun j G h => by simp at h)⟩
theorem s_all_cells (A : AH afa afn atf aET aFN w h K mg) (D : Defs P w K mg base (bOf K atf aET aFN) T_all_cells) : Defs P w K mg base (bOf K atf aET aFN) T_by_cells := defs_snoc D fun _ => o_all_cells A D
theorem o_by_cells (A : AH afa afn atf aET aFN w h K mg) (D : Defs P w K mg base (bOf K atf aET aFN) T_by_cells) : ∃ ad fd pn, DefOk P w K mg base (bOf K atf aET aFN) F_by_cells ad fd pn := by
  obtain ⟨fd, F⟩ := A.def_ (d := D_by_cells) (by simp)
  exact ⟨_, fd, P_by_cells, def_run (s := G_by_cells) (a_wt A) D F (A.glo (x := "by_cells") (by decide)) rfl rfl (by decide +kernel) e_by_cells rfl rfl c_by_cells (fun kV doc pm an cdv ct us hl => match us, hl with | [_, _], _ => rfl) rfl (fun j G h => by simp at h)⟩
theorem s_by_cells (A : AH afa afn atf aET aFN w h K mg) (D : Defs P w K mg base (bOf K atf aET aFN) T_by_cells) : Defs P w K mg base (bOf K atf aET aFN) T_check_face := defs_snoc D fun _ => o_by_cells A D
theorem o_check_face (A : AH afa afn atf aET aFN w h K mg) (D : Defs P w K mg base (bOf K atf aET aFN) T_check_face) : ∃ ad fd pn, DefOk P w K mg base (bOf K atf aET aFN) F_check_face ad fd pn := by
  obtain ⟨fd, F⟩ := A.def_ (d := D_check_face) (by simp)
  exact ⟨_, fd, P_check_face, def_run (s := G_check_face) (a_wt A) D F (A.glo (x := "check_face") (by decide)) rfl rfl (by decide +kernel) e_check_face rfl rfl c_check_face (fun kV doc pm an cdv ct us hl => match us, hl with | [_], _ => rfl) rfl (fun j G h => by simp at h)⟩
theorem s_check_face (A : AH afa afn atf aET aFN w h K mg) (D : Defs P w K mg base (bOf K atf aET aFN) T_check_face) : Defs P w K mg base (bOf K atf aET aFN) T_raw_turned := defs_snoc D fun _ => o_check_face A D
theorem o_raw_turned (A : AH afa afn atf aET aFN w h K mg) (D : Defs P w K mg base (bOf K atf aET aFN) T_raw_turned) : ∃ ad fd pn, DefOk P w K mg base (bOf K atf aET aFN) F_raw_turned ad fd pn := by
  obtain ⟨fd, F⟩ := A.def_ (d := D_raw_turned) (by simp)
  exact ⟨_, fd, P_raw_turned, def_run (s := G_raw_turned) (a_wt A) D F (A.glo (x := "raw_turned") (by decide)) rfl rfl (by decide +kernel) e_raw_turned rfl rfl c_raw_turned (fun kV doc pm an cdv ct us hl => match us, hl with | [_, _], _ => rfl) rfl (fun j G h => by simp at h)⟩
theorem s_raw_turned (A : AH afa afn atf aET aFN w h K mg) (D : Defs P w K mg base (bOf K atf aET aFN) T_raw_turned) : Defs P w K mg base (bOf K atf aET aFN) T_turned := defs_snoc D fun _ => o_raw_turned A D
theorem o_turned (A : AH afa afn atf aET aFN w h K mg) (D : Defs P w K mg base (bOf K atf aET aFN) T_turned) : ∃ ad fd pn, DefOk P w K mg base (bOf K atf aET aFN) F_turned ad fd pn := by
  obtain ⟨fd, F⟩ := A.def_ (d := D_turned) (by simp)
  exact ⟨_, fd, P_turned, def_run (s := G_turned) (a_wt A) D F (A.glo (x := "turned") (by decide)) rfl rfl (by decide +kernel) e_turned rfl rfl c_turned (fun kV doc pm an cdv ct us hl => match us, hl with | [_, _], _ => rfl) rfl (fun j G h => by simp at h)⟩
theorem s_turned (A : AH afa afn atf aET aFN w h K mg) (D : Defs P w K mg base (bOf K atf aET aFN) T_turned) : Defs P w K mg base (bOf K atf aET aFN) T_after_face := defs_snoc D fun _ => o_turned A D
theorem o_after_face (A : AH afa afn atf aET aFN w h K mg) (D : Defs P w K mg base (bOf K atf aET aFN) T_after_face) : ∃ ad fd pn, DefOk P w K mg base (bOf K atf aET aFN) F_after_face ad fd pn := by
  obtain ⟨fd, F⟩ := A.def_ (d := D_after_face) (by simp)
  exact ⟨_, fd, P_after_face, def_run (s := G_after_face) (a_wt A) D F (A.glo (x := "after_face") (by decide)) rfl rfl (by decide +kernel) e_after_face rfl rfl c_after_face (fun kV doc pm an cdv ct us hl => match us, hl with | [_, _], _ => rfl) rfl (fun j G h => by simp at h)⟩
theorem s_after_face (A : AH afa afn atf aET aFN w h K mg) (D : Defs P w K mg base (bOf K atf aET aFN) T_after_face) : Defs P w K mg base (bOf K atf aET aFN) T_all_faces := defs_snoc D fun _ => o_after_face A D
theorem o_all_faces (A : AH afa afn atf aET aFN w h K mg) (D : Defs P w K mg base (bOf K atf aET aFN) T_all_faces) : ∃ ad fd pn, DefOk P w K mg base (bOf K atf aET aFN) F_all_faces ad fd pn := by
  obtain ⟨fd, F⟩ := A.def_ (d := D_all_faces) (by simp)
  exact ⟨_, fd, P_all_faces, def_run (s := G_all_faces) (a_wt A) D F (A.glo (x := "all_faces") (by decide)) rfl rfl (by decide +kernel) e_all_faces rfl rfl c_all_faces (fun kV doc pm an cdv ct us hl => match us, hl with | [], _ => rfl) rfl (fun j G h => by simp at h)⟩
theorem s_all_faces (A : AH afa afn atf aET aFN w h K mg) (D : Defs P w K mg base (bOf K atf aET aFN) T_all_faces) : Defs P w K mg base (bOf K atf aET aFN) T_own_faces := defs_snoc D fun _ => o_all_faces A D
theorem o_own_faces (A : AH afa afn atf aET aFN w h K mg) (D : Defs P w K mg base (bOf K atf aET aFN) T_own_faces) : ∃ ad fd pn, DefOk P w K mg base (bOf K atf aET aFN) F_own_faces ad fd pn := by
  obtain ⟨fd, F⟩ := A.def_ (d := D_own_faces) (by simp)
  exact ⟨_, fd, P_own_faces, def_run (s := G_own_faces) (a_wt A) D F (A.glo (x := "own_faces") (by decide)) rfl rfl (by decide +kernel) e_own_faces rfl rfl c_own_faces (fun kV doc pm an cdv ct us hl => match us, hl with | [_], _ => rfl) rfl (fun j G h => by simp at h)⟩
theorem s_own_faces (A : AH afa afn atf aET aFN w h K mg) (D : Defs P w K mg base (bOf K atf aET aFN) T_own_faces) : Defs P w K mg base (bOf K atf aET aFN) T__law_hand := defs_snoc D fun _ => o_own_faces A D
theorem o__law_hand (A : AH afa afn atf aET aFN w h K mg) (D : Defs P w K mg base (bOf K atf aET aFN) T__law_hand) : ∃ ad fd pn, DefOk P w K mg base (bOf K atf aET aFN) F__law_hand ad fd pn := by
  obtain ⟨fd, F⟩ := A.def_ (d := D__law_hand) (by simp)
  exact ⟨_, fd, P__law_hand, def_run (s := G__law_hand) (a_wt A) D F (A.glo (x := "_law_hand") (by decide)) rfl rfl (by decide +kernel) e__law_hand rfl rfl c__law_hand (fun kV doc pm an cdv ct us hl => match us, hl with | [_], _ => rfl) rfl (fun j G h => by simp at h)⟩
theorem s__law_hand (A : AH afa afn atf aET aFN w h K mg) (D : Defs P w K mg base (bOf K atf aET aFN) T__law_hand) : Defs P w K mg base (bOf K atf aET aFN) T__law_draw := defs_snoc D fun _ => o__law_hand A D
theorem o__law_draw (A : AH afa afn atf aET aFN w h K mg) (D : Defs P w K mg base (bOf K atf aET aFN) T__law_draw) : ∃ ad fd pn, DefOk P w K mg base (bOf K atf aET aFN) F__law_draw ad fd pn := by
  obtain ⟨fd, F⟩ := A.def_ (d := D__law_draw) (by simp)
  exact ⟨_, fd, P__law_draw, def_run (s := G__law_draw) (a_wt A) D F (A.glo (x := "_law_draw") (by decide)) rfl rfl (by decide +kernel) e__law_draw rfl rfl c__law_draw (fun kV doc pm an cdv ct us hl => match us, hl with | [_, _], _ => rfl) rfl (fun j G h => by simp at h)⟩
theorem s__law_draw (A : AH afa afn atf aET aFN w h K mg) (D : Defs P w K mg base (bOf K atf aET aFN) T__law_draw) : Defs P w K mg base (bOf K atf aET aFN) T__law_any := defs_snoc D fun _ => o__law_draw A D
theorem o__law_any (A : AH afa afn atf aET aFN w h K mg) (D : Defs P w K mg base (bOf K atf aET aFN) T__law_any) : ∃ ad fd pn, DefOk P w K mg base (bOf K atf aET aFN) F__law_any ad fd pn := by
  obtain ⟨fd, F⟩ := A.def_ (d := D__law_any) (by simp)
  exact ⟨_, fd, P__law_any, def_run (s := G__law_any) (a_wt A) D F (A.glo (x := "_law_any") (by decide)) rfl rfl (by decide +kernel) e__law_any rfl rfl c__law_any (fun kV doc pm an cdv ct us hl => match us, hl with | [_, _], _ => rfl) rfl (fun j G h => by simp at h)⟩
theorem s__law_any (A : AH afa afn atf aET aFN w h K mg) (D : Defs P w K mg base (bOf K atf aET aFN) T__law_any) : Defs P w K mg base (bOf K atf aET aFN) T__law_names := defs_snoc D fun _ => o__law_any A D
theorem o__law_names (A : AH afa afn atf aET aFN w h K mg) (D : Defs P w K mg base (bOf K atf aET aFN) T__law_names) : ∃ ad fd pn, DefOk P w K mg base (bOf K atf aET aFN) F__law_names ad fd pn := by
  obtain ⟨fd, F⟩ := A.def_ (d := D__law_names) (by simp)
  exact ⟨_, fd, P__law_names, def_run (s := G__law_names) (a_wt A) D F (A.glo (x := "_law_names") (by decide)) rfl rfl (by decide +kernel) e__law_names rfl rfl c__law_names (fun kV doc pm an cdv ct us hl => match us, hl with | [_, _], _ => rfl) rfl (fun j G h => by simp at h)⟩
theorem s__law_names (A : AH afa afn atf aET aFN w h K mg) (D : Defs P w K mg base (bOf K atf aET aFN) T__law_names) : Defs P w K mg base (bOf K atf aET aFN) T__law_moved := defs_snoc D fun _ => o__law_names A D
theorem o__law_moved (A : AH afa afn atf aET aFN w h K mg) (D : Defs P w K mg base (bOf K atf aET aFN) T__law_moved) : ∃ ad fd pn, DefOk P w K mg base (bOf K atf aET aFN) F__law_moved ad fd pn := by
  obtain ⟨fd, F⟩ := A.def_ (d := D__law_moved) (by simp)
  exact ⟨_, fd, P__law_moved, def_run (s := G__law_moved) (a_wt A) D F (A.glo (x := "_law_moved") (by decide)) rfl rfl (by decide +kernel) e__law_moved rfl rfl c__law_moved (fun kV doc pm an cdv ct us hl => match us, hl with | [_, _, _, _], _ => rfl) rfl (fun j G h => by simp at h)⟩
theorem s__law_moved (A : AH afa afn atf aET aFN w h K mg) (D : Defs P w K mg base (bOf K atf aET aFN) T__law_moved) : Defs P w K mg base (bOf K atf aET aFN) T__law_square := defs_snoc D fun _ => o__law_moved A D
theorem o__law_square (A : AH afa afn atf aET aFN w h K mg) (D : Defs P w K mg base (bOf K atf aET aFN) T__law_square) : ∃ ad fd pn, DefOk P w K mg base (bOf K atf aET aFN) F__law_square ad fd pn := by
  obtain ⟨fd, F⟩ := A.def_ (d := D__law_square) (by simp)
  exact ⟨_, fd, P__law_square, def_run (s := G__law_square) (a_wt A) D F (A.glo (x := "_law_square") (by decide)) rfl rfl (by decide +kernel) e__law_square rfl rfl c__law_square (fun kV doc pm an cdv ct us hl => match us, hl with | [_, _], _ => rfl) rfl (fun j G h => by simp at h)⟩
theorem s__law_square (A : AH afa afn atf aET aFN w h K mg) (D : Defs P w K mg base (bOf K atf aET aFN) T__law_square) : Defs P w K mg base (bOf K atf aET aFN) T__law_cells := defs_snoc D fun _ => o__law_square A D
theorem o__law_cells (A : AH afa afn atf aET aFN w h K mg) (D : Defs P w K mg base (bOf K atf aET aFN) T__law_cells) : ∃ ad fd pn, DefOk P w K mg base (bOf K atf aET aFN) F__law_cells ad fd pn := by
  obtain ⟨fd, F⟩ := A.def_ (d := D__law_cells) (by simp)
  exact ⟨_, fd, P__law_cells, def_run (s := G__law_cells) (a_wt A) D F (A.glo (x := "_law_cells") (by decide)) rfl rfl (by decide +kernel) e__law_cells rfl rfl c__law_cells (fun kV doc pm an cdv ct us hl => match us, hl with | [_], _ => rfl) rfl (fun j G h => by simp at h)⟩
theorem s__law_cells (A : AH afa afn atf aET aFN w h K mg) (D : Defs P w K mg base (bOf K atf aET aFN) T__law_cells) : Defs P w K mg base (bOf K atf aET aFN) T__law_by_cells := defs_snoc D fun _ => o__law_cells A D
theorem o__law_by_cells (A : AH afa afn atf aET aFN w h K mg) (D : Defs P w K mg base (bOf K atf aET aFN) T__law_by_cells) : ∃ ad fd pn, DefOk P w K mg base (bOf K atf aET aFN) F__law_by_cells ad fd pn := by
  obtain ⟨fd, F⟩ := A.def_ (d := D__law_by_cells) (by simp)
  exact ⟨_, fd, P__law_by_cells, def_run (s := G__law_by_cells) (a_wt A) D F (A.glo (x := "_law_by_cells") (by decide)) rfl rfl (by decide +kernel) e__law_by_cells rfl rfl c__law_by_cells (fun kV doc pm an cdv ct us hl => match us, hl with | [_, _], _ => rfl) rfl (fun j G h => by simp at h)⟩
theorem s__law_by_cells (A : AH afa afn atf aET aFN w h K mg) (D : Defs P w K mg base (bOf K atf aET aFN) T__law_by_cells) : Defs P w K mg base (bOf K atf aET aFN) T__law_all := defs_snoc D fun _ => o__law_by_cells A D
theorem o__law_all (A : AH afa afn atf aET aFN w h K mg) (D : Defs P w K mg base (bOf K atf aET aFN) T__law_all) : ∃ ad fd pn, DefOk P w K mg base (bOf K atf aET aFN) F__law_all ad fd pn := by
  obtain ⟨fd, F⟩ := A.def_ (d := D__law_all) (by simp)
  exact ⟨_, fd, P__law_all, def_run (s := G__law_all) (a_wt A) D F (A.glo (x := "_law_all") (by decide)) rfl rfl (by decide +kernel) e__law_all rfl rfl c__law_all (fun kV doc pm an cdv ct us hl => match us, hl with | [_], _ => rfl) rfl (fun j G h => by simp at h)⟩
theorem s__law_all (A : AH afa afn atf aET aFN w h K mg) (D : Defs P w K mg base (bOf K atf aET aFN) T__law_all) : Defs P w K mg base (bOf K atf aET aFN) T__law_bad := defs_snoc D fun _ => o__law_all A D
theorem o__law_bad (A : AH afa afn atf aET aFN w h K mg) (D : Defs P w K mg base (bOf K atf aET aFN) T__law_bad) : ∃ ad fd pn, DefOk P w K mg base (bOf K atf aET aFN) F__law_bad ad fd pn := by
  obtain ⟨fd, F⟩ := A.def_ (d := D__law_bad) (by simp)
  exact ⟨_, fd, P__law_bad, def_run (s := G__law_bad) (a_wt A) D F (A.glo (x := "_law_bad") (by decide)) rfl rfl (by decide +kernel) e__law_bad rfl rfl c__law_bad (fun kV doc pm an cdv ct us hl => match us, hl with | [_, _], _ => rfl) rfl (fun j G h => by simp at h)⟩
theorem s__law_bad (A : AH afa afn atf aET aFN w h K mg) (D : Defs P w K mg base (bOf K atf aET aFN) T__law_bad) : Defs P w K mg base (bOf K atf aET aFN) T__law_word := defs_snoc D fun _ => o__law_bad A D
theorem s__law_word (D : Defs P w K mg base (bOf K atf aET aFN) T__law_word) : Defs P w K mg base (bOf K atf aET aFN) T__law_turned := defs_snoc D fun h => absurd h (by decide)
theorem o__law_turned (A : AH afa afn atf aET aFN w h K mg) (D : Defs P w K mg base (bOf K atf aET aFN) T__law_turned) : ∃ ad fd pn, DefOk P w K mg base (bOf K atf aET aFN) F__law_turned ad fd pn := by
  obtain ⟨fd, F⟩ := A.def_ (d := D__law_turned) (by simp)
  exact ⟨_, fd, P__law_turned, def_run (s := G__law_turned) (a_wt A) D F (A.glo (x := "_law_turned") (by decide)) rfl rfl (by decide +kernel) e__law_turned rfl rfl c__law_turned (fun kV doc pm an cdv ct us hl => match us, hl with | [_, _], _ => rfl) rfl (fun j G h => by simp at h)⟩
theorem s__law_turned (A : AH afa afn atf aET aFN w h K mg) (D : Defs P w K mg base (bOf K atf aET aFN) T__law_turned) : Defs P w K mg base (bOf K atf aET aFN) T_law := defs_snoc D fun _ => o__law_turned A D
theorem o_law (A : AH afa afn atf aET aFN w h K mg) (D : Defs P w K mg base (bOf K atf aET aFN) T_law) (hB : ∀ p ∈ atf, LamX.TabB base mg (He.cT K p).1 (He.cT K p).2) {fd : FuncData} (F : FunD K "law" "law" (defArgs S_law) (defBody S_law) (defScope S_law) [] [] (He.fAd K ("law", none)) fd) : DefOk P w K mg base (bOf K atf aET aFN) F_law (He.ga K "law") fd P_law := by
  obtain ⟨E, U⟩ := A.ef (by decide) (by decide)
  refine def_run (s := G_law) (a_wt A) D F (A.glo (x := "law") (by decide)) rfl rfl (by decide +kernel) e_law rfl rfl c_law (fun kV doc pm an cdv ct us hl => match us, hl with | [_], _ => rfl) rfl (fun j G hj hG => ?_)
  have ej : j = 25 := by simpa using hj
  subst ej
  have eG : G = F__law_word := by have z : some F__law_word = some G := hG; exact (Option.some.inj z).symm
  subst eG
  obtain ⟨fdw, Fw⟩ := A.def_ (d := D__law_word) (by simp)
  have Fw' : FunD K "_law_word" "_law_word" (defArgs S__law_word) W__law_word.py W__law_word.sc [] [] (He.fAd K ("_law_word", none)) fdw := by rw [← e__law_word]; exact Fw
  exact wdT_of F Fw' E U (A.free (by decide)) (A.glo (x := "_law_word") (by decide)) c__law_word (by decide +kernel) (by decide +kernel) (fun kV doc pm an cdv ct us hl => match us, hl with | [_], _ => rfl) (by decide) (hB _ (by decide)) rfl rfl rfl
theorem a_all (A : AH afa afn atf aET aFN w h K mg) (hB : ∀ p ∈ atf, LamX.TabB base mg (He.cT K p).1 (He.cT K p).2) : Defs P w K mg base (bOf K atf aET aFN) T_law := (s__law_turned A (s__law_word (s__law_bad A (s__law_all A (s__law_by_cells A (s__law_cells A (s__law_square A (s__law_moved A (s__law_names A (s__law_any A (s__law_draw A (s__law_hand A (s_own_faces A (s_all_faces A (s_after_face A (s_turned A (s_raw_turned A (s_check_face A (s_by_cells A (s_all_cells A (s_check_square A (s_is_square A (s_are_columns A (s_are_all A (s_is_sized A (s_is_within A (s_is_integer A defs_nil)))))))))))))))))))))))))))
end
-- loose: is_integer is_within is_sized are_all are_columns is_square check_square all_cells by_cells check_face raw_turned turned after_face all_faces own_faces _law_hand _law_draw _law_any _law_names _law_moved _law_square _law_cells _law_by_cells _law_all _law_bad _law_word _law_turned SquareError NoFace NoSquare TooMany MOST_SIGNS
open PySem.W in
abbrev aR : OpenRow := OpenLaw.row PySem.Challenge.rw_squarehouse_k04_whole_faces_of_squares
abbrev ahk : PySem.W.Hook := He.hookX 4 afa afn [] atf (exB aET aFN atf)
def aob (s : PySem.W.SharedT) : He.AlX := He.obsX 4 afa afn [] atf (exB aET aFN atf) (HandSHeadRun.getT s)
theorem a_obe (s : PySem.W.SharedT) : aob s = ahk.obs s.abs := He.obsX_eq (HandSHeadRun.getT_eq s)
def aloose : List Str := (["is_integer", "is_within", "is_sized", "are_all", "are_columns", "is_square", "check_square", "all_cells", "by_cells", "check_face", "raw_turned", "turned", "after_face", "all_faces", "own_faces", "_law_hand", "_law_draw", "_law_any", "_law_names", "_law_moved"] : List Str) ++ (["_law_square", "_law_cells", "_law_by_cells", "_law_all", "_law_bad", "_law_word", "_law_turned", "SquareError", "NoFace", "NoSquare", "TooMany", "MOST_SIGNS"] : List Str)
theorem a_run (w : World) : HandSHeadRun.RunEq aR (PySem.W.view aR.prog [36]) ahk aob 4000 aloose w := by
  intro os
  kernel_rfl
theorem a_holds (hsem : ∀ ns : List Int, ns.length ≤ 63 → (∀ z ∈ ns, Builtin.Int.intBits z ≤ 1048576) → ∃ outs, F_law.sem [.list (ns.map .int)] = .ok (.bool true, outs)) : PySem.Challenge.rw_squarehouse_k04_whole_faces_of_squares.Holds := by
  w_on; o_law
  refine HandSHeadRun.head_any (r := PySem.W.OpenLaw.row PySem.Challenge.rw_squarehouse_k04_whole_faces_of_squares) (q := PySem.W.view (PySem.W.OpenLaw.row PySem.Challenge.rw_squarehouse_k04_whole_faces_of_squares).prog [36]) (H := ahk) (ob := aob) (M := 4000) (loose := aloose) (d := HandSHeadRun.topDef (PySem.W.OpenLaw.row PySem.Challenge.rw_squarehouse_k04_whole_faces_of_squares).prog 36) (kwd := []) a_obe
    (by kernel_rfl) (fun s => by kernel_rfl) a_run (by kernel_rfl) (by kernel_rfl) (by kernel_rfl) (by rfl) (by first | assumption | decide +kernel) (by decide +kernel) ⟨rfl, rfl, rfl, rfl, rfl, by decide +kernel⟩ ?hw ?hc
  case hw => w_witness2
  case hc =>
    refine LamX.walk_ofTsE (l := PySem.Challenge.rw_squarehouse_k04_whole_faces_of_squares) (n := 63) (k := 9) (x := "script") (CX := fun w => L2.CX PySem.Challenge.rw_squarehouse_k04_whole_faces_of_squares.prog w) rfl (by decide) (by kernel_rfl) ⟨rfl, by decide, by decide⟩ ?F (fun _ _ _ _ _ z => cx_none z)
    intro w mg fa h Y G hmg0
    obtain ⟨K, KX, c⟩ := Y
    have hmg : mg ("law" : PySem.Str) = some (.ref fa) := by
      have e : (HandSHeadRun.topDef (PySem.W.OpenLaw.row PySem.Challenge.rw_squarehouse_k04_whole_faces_of_squares).prog 36).name = ("law" : PySem.Str) := by kernel_rfl
      rw [← e]
      exact hmg0
    have A : AH afa afn atf aET aFN w h K mg := ⟨KX, G, c⟩
    have efa : fa = He.ga K "law" := by
      have z := A.glo (x := "law") (by decide)
      rw [hmg] at z
      exact Value.ref.inj (Option.some.inj z)
    subst efa
    exact ⟨K, KX, law_at (d := D_law) (F := F_law) A (by simp) rfl rfl rfl (fun kV doc pm an cdv ct us hl => match us, hl with | [_], _ => rfl) rfl rfl (by decide) hsem fun fd F base hK hN hB => o_law A (a_all A hB) hB F⟩
end VL


set_option linter.all false
namespace VL
open PySem
@[simp] theorem kc_is_within_0 (es : Es) (q p : Pos) (e : Ev) : ev T_is_within (.call 0 "is_integer" es q p) e = rb (evsA T_is_within es [.own .sh] e) fun xs e1 => vof F_is_integer xs e1 := ev_cc (F := F_is_integer) rfl rfl
@[simp] theorem kc_are_all_1 (es : Es) (q p : Pos) (e : Ev) : ev T_are_all (.call 1 "is_within" es q p) e = rb (evsA T_are_all es [.own .sh, .own .sh, .own .sh] e) fun xs e1 => vof F_is_within xs e1 := ev_cc (F := F_is_within) rfl rfl
@[simp] theorem kc_are_all_2 (es : Es) (q p : Pos) (e : Ev) : ev T_are_all (.call 2 "is_sized" es q p) e = rb (evsA T_are_all es [.own .sh, .own .sh, .own .sh] e) fun xs e1 => vof F_is_sized xs e1 := ev_cc (F := F_is_sized) rfl rfl
@[simp] theorem kc_is_square_3 (es : Es) (q p : Pos) (e : Ev) : ev T_is_square (.call 3 "are_all" es q p) e = rb (evsA T_is_square es [.own .sh, .own .sh] e) fun xs e1 => vof F_are_all xs e1 := ev_cc (F := F_are_all) rfl rfl
@[simp] theorem kc_is_square_2 (es : Es) (q p : Pos) (e : Ev) : ev T_is_square (.call 2 "is_sized" es q p) e = rb (evsA T_is_square es [.own .sh, .own .sh, .own .sh] e) fun xs e1 => vof F_is_sized xs e1 := ev_cc (F := F_is_sized) rfl rfl
@[simp] theorem kc_is_square_4 (es : Es) (q p : Pos) (e : Ev) : ev T_is_square (.call 4 "are_columns" es q p) e = rb (evsA T_is_square es [.own .sh] e) fun xs e1 => vof F_are_columns xs e1 := ev_cc (F := F_are_columns) rfl rfl
@[simp] theorem kc_check_square_5 (es : Es) (q p : Pos) (e : Ev) : ev T_check_square (.call 5 "is_square" es q p) e = rb (evsA T_check_square es [.own .sh] e) fun xs e1 => vof F_is_square xs e1 := ev_cc (F := F_is_square) rfl rfl
@[simp] theorem kc_check_face_3 (es : Es) (q p : Pos) (e : Ev) : ev T_check_face (.call 3 "are_all" es q p) e = rb (evsA T_check_face es [.own .sh, .own .sh] e) fun xs e1 => vof F_are_all xs e1 := ev_cc (F := F_are_all) rfl rfl
@[simp] theorem kc_raw_turned_7 (es : Es) (q p : Pos) (e : Ev) : ev T_raw_turned (.call 7 "all_cells" es q p) e = rb (evsA T_raw_turned es [.own .sh] e) fun xs e1 => vof F_all_cells xs e1 := ev_cc (F := F_all_cells) rfl rfl
@[simp] theorem kc_raw_turned_8 (es : Es) (q p : Pos) (e : Ev) : ev T_raw_turned (.call 8 "by_cells" es q p) e = rb (evsA T_raw_turned es [.own .sh, .own .sh] e) fun xs e1 => vof F_by_cells xs e1 := ev_cc (F := F_by_cells) rfl rfl
@[simp] theorem kc_turned_6 (es : Es) (q p : Pos) (e : Ev) : ev T_turned (.call 6 "check_square" es q p) e = rb (evsA T_turned es [.own .sh] e) fun xs e1 => vof F_check_square xs e1 := ev_cc (F := F_check_square) rfl rfl
@[simp] theorem kc_turned_9 (es : Es) (q p : Pos) (e : Ev) : ev T_turned (.call 9 "check_face" es q p) e = rb (evsA T_turned es [.own .sh] e) fun xs e1 => vof F_check_face xs e1 := ev_cc (F := F_check_face) rfl rfl
@[simp] theorem kc_turned_10 (es : Es) (q p : Pos) (e : Ev) : ev T_turned (.call 10 "raw_turned" es q p) e = rb (evsA T_turned es [.own .sh, .own .sh] e) fun xs e1 => vof F_raw_turned xs e1 := ev_cc (F := F_raw_turned) rfl rfl
@[simp] theorem kc_after_face_9 (es : Es) (q p : Pos) (e : Ev) : ev T_after_face (.call 9 "check_face" es q p) e = rb (evsA T_after_face es [.own .sh] e) fun xs e1 => vof F_check_face xs e1 := ev_cc (F := F_check_face) rfl rfl
@[simp] theorem kc_own_faces_13 (es : Es) (q p : Pos) (e : Ev) : ev T_own_faces (.call 13 "all_faces" es q p) e = rb (evsA T_own_faces es [] e) fun xs e1 => vof F_all_faces xs e1 := ev_cc (F := F_all_faces) rfl rfl
@[simp] theorem kc_own_faces_10 (es : Es) (q p : Pos) (e : Ev) : ev T_own_faces (.call 10 "raw_turned" es q p) e = rb (evsA T_own_faces es [.own .sh, .own .sh] e) fun xs e1 => vof F_raw_turned xs e1 := ev_cc (F := F_raw_turned) rfl rfl
@[simp] theorem kc_own_faces_6 (es : Es) (q p : Pos) (e : Ev) : ev T_own_faces (.call 6 "check_square" es q p) e = rb (evsA T_own_faces es [.own .sh] e) fun xs e1 => vof F_check_square xs e1 := ev_cc (F := F_check_square) rfl rfl
@[simp] theorem kc__law_any_16 (es : Es) (q p : Pos) (e : Ev) : ev T__law_any (.call 16 "_law_draw" es q p) e = rb (evsA T__law_any es [.ref (.ls .sh), .own .sh] e) fun xs e1 => vofR F__law_draw [.ref (.ls .sh), .own .sh] es xs e1 := ev_cR (F := F__law_draw) rfl
@[simp] theorem kc__law_names_16 (es : Es) (q p : Pos) (e : Ev) : ev T__law_names (.call 16 "_law_draw" es q p) e = rb (evsA T__law_names es [.ref (.ls .sh), .own .sh] e) fun xs e1 => vofR F__law_draw [.ref (.ls .sh), .own .sh] es xs e1 := ev_cR (F := F__law_draw) rfl
@[simp] theorem kc__law_square_16 (es : Es) (q p : Pos) (e : Ev) : ev T__law_square (.call 16 "_law_draw" es q p) e = rb (evsA T__law_square es [.ref (.ls .sh), .own .sh] e) fun xs e1 => vofR F__law_draw [.ref (.ls .sh), .own .sh] es xs e1 := ev_cR (F := F__law_draw) rfl
@[simp] theorem kc__law_square_19 (es : Es) (q p : Pos) (e : Ev) : ev T__law_square (.call 19 "_law_moved" es q p) e = rb (evsA T__law_square es [.own .sh, .own .sh, .own .sh, .own .sh] e) fun xs e1 => vof F__law_moved xs e1 := ev_cc (F := F__law_moved) rfl rfl
@[simp] theorem kc__law_square_18 (es : Es) (q p : Pos) (e : Ev) : ev T__law_square (.call 18 "_law_names" es q p) e = rb (evsA T__law_square es [.ref (.ls .sh), .own .sh] e) fun xs e1 => vofR F__law_names [.ref (.ls .sh), .own .sh] es xs e1 := ev_cR (F := F__law_names) rfl
@[simp] theorem kc__law_bad_17 (es : Es) (q p : Pos) (e : Ev) : ev T__law_bad (.call 17 "_law_any" es q p) e = rb (evsA T__law_bad es [.ref (.ls .sh), .own .sh] e) fun xs e1 => vofR F__law_any [.ref (.ls .sh), .own .sh] es xs e1 := ev_cR (F := F__law_any) rfl
@[simp] theorem kc__law_turned_21 (es : Es) (q p : Pos) (e : Ev) : ev T__law_turned (.call 21 "_law_cells" es q p) e = rb (evsA T__law_turned es [.own .sh] e) fun xs e1 => vof F__law_cells xs e1 := ev_cc (F := F__law_cells) rfl rfl
@[simp] theorem kc__law_turned_22 (es : Es) (q p : Pos) (e : Ev) : ev T__law_turned (.call 22 "_law_by_cells" es q p) e = rb (evsA T__law_turned es [.own .sh, .own .sh] e) fun xs e1 => vof F__law_by_cells xs e1 := ev_cc (F := F__law_by_cells) rfl rfl
@[simp] theorem kc_law_26 (es : Es) (q p : Pos) (e : Ev) : ev T_law (.call 26 "_law_turned" es q p) e = rb (evsA T_law es [.own .sh, .own .sh] e) fun xs e1 => vof F__law_turned xs e1 := ev_cc (F := F__law_turned) rfl rfl
@[simp] theorem kc_law_11 (es : Es) (q p : Pos) (e : Ev) : ev T_law (.call 11 "turned" es q p) e = rb (evsA T_law es [.own .sh, .own .sh] e) fun xs e1 => vof F_turned xs e1 := ev_cc (F := F_turned) rfl rfl
@[simp] theorem kc_law_5 (es : Es) (q p : Pos) (e : Ev) : ev T_law (.call 5 "is_square" es q p) e = rb (evsA T_law es [.own .sh] e) fun xs e1 => vof F_is_square xs e1 := ev_cc (F := F_is_square) rfl rfl
@[simp] theorem kc_law_12 (es : Es) (q p : Pos) (e : Ev) : ev T_law (.call 12 "after_face" es q p) e = rb (evsA T_law es [.own .sh, .own .sh] e) fun xs e1 => vof F_after_face xs e1 := ev_cc (F := F_after_face) rfl rfl
@[simp] theorem kc_law_20 (es : Es) (q p : Pos) (e : Ev) : ev T_law (.call 20 "_law_square" es q p) e = rb (evsA T_law es [.ref (.ls .sh), .own .sh] e) fun xs e1 => vofR F__law_square [.ref (.ls .sh), .own .sh] es xs e1 := ev_cR (F := F__law_square) rfl
@[simp] theorem kc_law_14 (es : Es) (q p : Pos) (e : Ev) : ev T_law (.call 14 "own_faces" es q p) e = rb (evsA T_law es [.own .sh] e) fun xs e1 => vof F_own_faces xs e1 := ev_cc (F := F_own_faces) rfl rfl
@[simp] theorem kc_law_17 (es : Es) (q p : Pos) (e : Ev) : ev T_law (.call 17 "_law_any" es q p) e = rb (evsA T_law es [.ref (.ls .sh), .own .sh] e) fun xs e1 => vofR F__law_any [.ref (.ls .sh), .own .sh] es xs e1 := ev_cR (F := F__law_any) rfl
@[simp] theorem kc_law_24 (es : Es) (q p : Pos) (e : Ev) : ev T_law (.call 24 "_law_bad" es q p) e = rb (evsA T_law es [.ref (.ls .sh), .own .sh] e) fun xs e1 => vofR F__law_bad [.ref (.ls .sh), .own .sh] es xs e1 := ev_cR (F := F__law_bad) rfl
@[simp] theorem kc_law_15 (es : Es) (q p : Pos) (e : Ev) : ev T_law (.call 15 "_law_hand" es q p) e = rb (evsA T_law es [.bor .ks] e) fun xs e1 => vof F__law_hand xs e1 := ev_cc (F := F__law_hand) rfl rfl
@[simp] theorem kc_law_23 (es : Es) (q p : Pos) (e : Ev) : ev T_law (.call 23 "_law_all" es q p) e = rb (evsA T_law es [.own .sh] e) fun xs e1 => vof F__law_all xs e1 := ev_cc (F := F__law_all) rfl rfl
end VL


/-! PL1: Hall's theorem for finite sets told by Bool functions (Rado's proof). -/
namespace PL
def card (p : Nat → Bool) (m : Nat) : Nat := (List.range m).countP p
theorem card_succ (p : Nat → Bool) (m : Nat) : card p (m + 1) = card p m + if p m = true then 1 else 0 := by
  unfold card
  rw [List.range_succ, List.countP_append]
  simp [List.countP_cons]
theorem card_mono {p q : Nat → Bool} : ∀ {m : Nat}, (∀ i, i < m → p i = true → q i = true) → card p m ≤ card q m
  | 0, _ => Nat.le_refl _
  | m + 1, h => by
    rw [card_succ, card_succ]
    have ih := card_mono (m := m) fun i hi => h i (Nat.lt_succ_of_lt hi)
    have hm := h m (Nat.lt_succ_self m)
    by_cases hp : p m = true
    · rw [if_pos hp, if_pos (hm hp)]; omega
    · rw [if_neg hp]; omega
theorem card_or_and (p q : Nat → Bool) : ∀ m : Nat, card (fun i => p i || q i) m + card (fun i => p i && q i) m = card p m + card q m
  | 0 => rfl
  | m + 1 => by
    simp only [card_succ]
    have ih := card_or_and p q m
    cases p m <;> cases q m <;> simp <;> omega
theorem card_congr {p q : Nat → Bool} {m : Nat} (h : ∀ i, i < m → p i = q i) : card p m = card q m :=
  Nat.le_antisymm (card_mono fun i hi z => by rw [← h i hi]; exact z) (card_mono fun i hi z => by rw [h i hi]; exact z)
theorem card_le (p : Nat → Bool) : ∀ m : Nat, card p m ≤ m
  | 0 => Nat.le_refl _
  | m + 1 => by rw [card_succ]; have := card_le p m; split <;> omega
theorem card_one {j : Nat} : ∀ {m : Nat}, j < m → card (fun i => i == j) m = 1
  | 0, h => by omega
  | m + 1, h => by
    rw [card_succ]
    by_cases hj : m = j
    · subst hj
      have z : card (fun i => i == m) m = 0 := by
        unfold card
        rw [List.countP_eq_zero]
        intro a ha
        have := List.mem_range.mp ha
        simp; omega
      simp [z]
    · rw [card_one (m := m) (by omega)]
      simp [hj]
theorem card_pos {p : Nat → Bool} {m : Nat} (h : 0 < card p m) : ∃ i, i < m ∧ p i = true := by
  unfold card at h
  obtain ⟨a, ha, hp⟩ := List.countP_pos_iff.mp h
  exact ⟨a, List.mem_range.mp ha, hp⟩
theorem card_split {p : Nat → Bool} {j m : Nat} (hj : j < m) (hp : p j = true) : card p m = card (fun i => p i && !(i == j)) m + 1 := by
  have h := card_or_and (fun i => p i && !(i == j)) (fun i => i == j) m
  have e1 : card (fun i => (p i && !(i == j)) || (i == j)) m = card p m := card_congr fun i hi => by
    by_cases z : i = j
    · subst z; simp [hp]
    · have z' : (i == j) = false := by simpa using z
      rw [z']; simp
  have e2 : card (fun i => (p i && !(i == j)) && (i == j)) m = 0 := by
    unfold card
    rw [List.countP_eq_zero]
    intro a _
    cases h : a == j <;> simp [h]
  rw [e1, e2, card_one hj] at h
  omega
/-- two of them -/
theorem card_two {p : Nat → Bool} {m : Nat} (h : 1 < card p m) : ∃ i j, i < m ∧ j < m ∧ i ≠ j ∧ p i = true ∧ p j = true := by
  obtain ⟨i, hi, hp⟩ := card_pos (p := p) (m := m) (by omega)
  have hs := card_split hi hp
  obtain ⟨j, hj, hq⟩ := card_pos (p := fun k => p k && !(k == i)) (m := m) (by omega)
  simp only [Bool.and_eq_true, Bool.not_eq_true', beq_eq_false_iff_ne] at hq
  exact ⟨i, j, hi, hj, fun z => hq.2 z.symm, hp, hq.1⟩
/-- the signs that some column of S lets in -/
def nb (A : Nat → Nat → Bool) (n : Nat) (S : Nat → Bool) : Nat → Bool := fun s => (List.range n).any fun c => S c && A c s
theorem nb_iff {A : Nat → Nat → Bool} {n : Nat} {S : Nat → Bool} {s : Nat} : nb A n S s = true ↔ ∃ c, c < n ∧ S c = true ∧ A c s = true := by
  unfold nb
  simp only [List.any_eq_true, List.mem_range, Bool.and_eq_true]
def Hall (A : Nat → Nat → Bool) (n m : Nat) : Prop := ∀ S : Nat → Bool, card S n ≤ card (nb A n S) m
def SDR (A : Nat → Nat → Bool) (n m : Nat) : Prop := ∃ f : Nat → Nat, (∀ c, c < n → f c < m ∧ A c (f c) = true) ∧ ∀ c d, c < n → d < n → f c = f d → c = d
def total (A : Nat → Nat → Bool) (m : Nat) : Nat → Nat
  | 0 => 0
  | n + 1 => total A m n + card (A n) m
def without (A : Nat → Nat → Bool) (c x : Nat) : Nat → Nat → Bool := fun d s => A d s && !(d == c && s == x)
theorem without_le {A : Nat → Nat → Bool} {c x d s : Nat} (h : without A c x d s = true) : A d s = true := by
  unfold without at h
  simp only [Bool.and_eq_true] at h
  exact h.1
theorem total_le {A : Nat → Nat → Bool} {c x m : Nat} : ∀ n : Nat, total (without A c x) m n ≤ total A m n
  | 0 => Nat.le_refl _
  | n + 1 => Nat.add_le_add (total_le n) (card_mono fun i _ h => without_le h)
theorem total_lt {A : Nat → Nat → Bool} {c x m : Nat} (hx : x < m) (hA : A c x = true) : ∀ {n : Nat}, c < n → total (without A c x) m n < total A m n
  | 0, h => by omega
  | n + 1, h => by
    show total (without A c x) m n + card (without A c x n) m < total A m n + card (A n) m
    by_cases hc : c = n
    · subst hc
      have h1 := total_le (A := A) (c := c) (x := x) (m := m) c
      have h2 := card_split hx hA
      have h3 : card (without A c x c) m = card (fun i => A c i && !(i == x)) m := card_congr fun i _ => by simp [without]
      omega
    · have h1 := total_lt (n := n) hx hA (by omega)
      have h2 : card (without A c x n) m ≤ card (A n) m := card_mono fun i _ h => without_le h
      omega
/-- one of two may go -/
theorem drop_one {A : Nat → Nat → Bool} {n m c x y : Nat} (hH : Hall A n m) (hc : c < n) (hx : x < m) (hy : y < m) (hxy : x ≠ y) (hAx : A c x = true) (hAy : A c y = true) : Hall (without A c x) n m ∨ Hall (without A c y) n m := by
  refine Classical.byContradiction fun hno => ?_
  have h1 : ¬ Hall (without A c x) n m := fun z => hno (.inl z)
  have h2 : ¬ Hall (without A c y) n m := fun z => hno (.inr z)
  obtain ⟨S, hS⟩ := Classical.not_forall.mp h1
  obtain ⟨T, hT⟩ := Classical.not_forall.mp h2
  -- both name c, else nothing has gone
  have key : ∀ (z : Nat) (R : Nat → Bool), ¬ card R n ≤ card (nb (without A c z) n R) m → R c = true := fun z R hR => by
    refine Classical.byContradiction fun hRc => hR ?_
    refine Nat.le_trans (hH R) (card_mono fun s _ hs => ?_)
    obtain ⟨d, h1, h2, h3⟩ := nb_iff.mp hs
    refine nb_iff.mpr ⟨d, h1, h2, ?_⟩
    have : d ≠ c := fun e => hRc (e ▸ h2)
    simp [without, h3, this]
  have Sc := key x S hS
  have Tc := key y T hT
  have e1 := card_or_and S T n
  have e2 := card_or_and (nb (without A c x) n S) (nb (without A c y) n T) m
  -- the union lets in all that A lets in
  have u1 : card (nb A n fun i => S i || T i) m ≤ card (fun i => nb (without A c x) n S i || nb (without A c y) n T i) m := card_mono fun s _ hs => by
    obtain ⟨d, w1, w2, w3⟩ := nb_iff.mp hs
    simp only [Bool.or_eq_true] at w2 ⊢
    by_cases hd : d = c
    · subst hd
      by_cases hsx : s = x
      · exact .inr (nb_iff.mpr ⟨d, w1, Tc, by
          have : s ≠ y := fun e => hxy (hsx ▸ e)
          simp [without, w3, this]⟩)
      · exact .inl (nb_iff.mpr ⟨d, w1, Sc, by simp [without, w3, hsx]⟩)
    · rcases w2 with w2 | w2
      · exact .inl (nb_iff.mpr ⟨d, w1, w2, by simp [without, w3, hd]⟩)
      · exact .inr (nb_iff.mpr ⟨d, w1, w2, by simp [without, w3, hd]⟩)
  -- what both have without c
  have u2 : card (nb A n fun i => (S i && T i) && !(i == c)) m ≤ card (fun i => nb (without A c x) n S i && nb (without A c y) n T i) m := card_mono fun s _ hs => by
    obtain ⟨d, w1, w2, w3⟩ := nb_iff.mp hs
    simp only [Bool.and_eq_true, Bool.not_eq_true', beq_eq_false_iff_ne] at w2 ⊢
    exact ⟨nb_iff.mpr ⟨d, w1, w2.1.1, by simp [without, w3, w2.2]⟩, nb_iff.mpr ⟨d, w1, w2.1.2, by simp [without, w3, w2.2]⟩⟩
  have v1 := hH fun i => S i || T i
  have v2 := hH fun i => (S i && T i) && !(i == c)
  have v3 := card_split (p := fun i => S i && T i) hc (by simp [Sc, Tc])
  simp only [Nat.not_le] at hS hT
  omega
theorem hall {n m : Nat} : ∀ (k : Nat) (A : Nat → Nat → Bool), total A m n = k → Hall A n m → SDR A n m := by
  intro k
  induction k using Nat.strongRecOn with
  | _ k ih =>
    intro A hk hH
    by_cases h : ∃ c, c < n ∧ 1 < card (A c) m
    · obtain ⟨c, hc, h2⟩ := h
      obtain ⟨x, y, hx, hy, hxy, hAx, hAy⟩ := card_two h2
      have up : ∀ z, SDR (without A c z) n m → SDR A n m := fun z ⟨f, f1, f2⟩ => ⟨f, fun d hd => ⟨(f1 d hd).1, without_le (f1 d hd).2⟩, f2⟩
      rcases drop_one hH hc hx hy hxy hAx hAy with z | z
      · exact up x (ih _ (by rw [← hk]; exact total_lt hx hAx hc) _ rfl z)
      · exact up y (ih _ (by rw [← hk]; exact total_lt hy hAy hc) _ rfl z)
    · -- each lets in one alone
      have one : ∀ c, c < n → ∃ s, s < m ∧ A c s = true := fun c hc => by
        have z := hH fun i => i == c
        rw [card_one hc] at z
        obtain ⟨s, hs, h1⟩ := card_pos (show 0 < card (nb A n fun i => i == c) m by omega)
        obtain ⟨d, _, h2, h3⟩ := nb_iff.mp h1
        have : d = c := by simpa using h2
        subst this
        exact ⟨s, hs, h3⟩
      refine ⟨fun c => if hc : c < n then (one c hc).choose else 0, fun c hc => ?_, fun c d hc hd e => ?_⟩
      · simp only [hc, dif_pos]
        exact (one c hc).choose_spec
      · simp only [hc, hd, dif_pos] at e
        refine Classical.byContradiction fun hcd => ?_
        obtain ⟨s1, s2⟩ := (one c hc).choose_spec
        obtain ⟨t1, t2⟩ := (one d hd).choose_spec
        generalize (one c hc).choose = s at e s1 s2
        generalize (one d hd).choose = t at e t1 t2
        subst e
        have z := hH fun i => i == c || i == d
        have c2 := card_or_and (fun i => i == c) (fun i => i == d) n
        rw [card_one hc, card_one hd] at c2
        have c0 : card (fun i => i == c && i == d) n = 0 := by
          unfold card
          rw [List.countP_eq_zero]
          intro a _
          by_cases z : a = c
          · subst z; simp [hcd]
          · simp [z]
        have c3 : card (nb A n fun i => i == c || i == d) m ≤ card (fun i => i == s) m := card_mono fun u hu hs => by
          obtain ⟨w, w1, w2, w3⟩ := nb_iff.mp hs
          have only : ∀ q, q < n → A q s = true → A q u = true → u = s := fun q hq a1 a2 => Classical.byContradiction fun hne => h ⟨q, hq, by
            have k1 := card_split s1 a1
            have k2 := card_split (p := fun i => A q i && !(i == s)) hu (by simp [a2, hne])
            omega⟩
          simp only [Bool.or_eq_true, beq_iff_eq] at w2
          rcases w2 with rfl | rfl
          · simp [only w w1 s2 w3]
          · simp [only w w1 t2 w3]
        rw [card_one s1] at c3
        omega
/-! ### as many each way -/
def sm (f : Nat → Nat) : Nat → Nat
  | 0 => 0
  | n + 1 => sm f n + f n
theorem sm_congr {f g : Nat → Nat} : ∀ {n : Nat}, (∀ i, i < n → f i = g i) → sm f n = sm g n
  | 0, _ => rfl
  | n + 1, h => by
    show sm f n + f n = sm g n + g n
    rw [sm_congr fun i hi => h i (Nat.lt_succ_of_lt hi), h n (Nat.lt_succ_self n)]
theorem sm_le {f g : Nat → Nat} : ∀ {n : Nat}, (∀ i, i < n → f i ≤ g i) → sm f n ≤ sm g n
  | 0, _ => Nat.le_refl _
  | n + 1, h => Nat.add_le_add (sm_le fun i hi => h i (Nat.lt_succ_of_lt hi)) (h n (Nat.lt_succ_self n))
theorem sm_zero : ∀ n : Nat, sm (fun _ => 0) n = 0
  | 0 => rfl
  | n + 1 => by show sm (fun _ => 0) n + 0 = 0; rw [sm_zero n]
theorem sm_add (f g : Nat → Nat) : ∀ n : Nat, sm (fun i => f i + g i) n = sm f n + sm g n
  | 0 => rfl
  | n + 1 => by
    show sm (fun i => f i + g i) n + (f n + g n) = (sm f n + f n) + (sm g n + g n)
    rw [sm_add f g n]; omega
theorem sm_comm (g : Nat → Nat → Nat) (m : Nat) : ∀ n : Nat, sm (fun i => sm (g i) m) n = sm (fun j => sm (fun i => g i j) n) m
  | 0 => (sm_zero m).symm
  | n + 1 => by
    show sm (fun i => sm (g i) m) n + sm (g n) m = sm (fun j => sm (fun i => g i j) n + g n j) m
    rw [sm_comm g m n, sm_add]
theorem card_sm (p : Nat → Bool) : ∀ m : Nat, card p m = sm (fun i => if p i = true then 1 else 0) m
  | 0 => rfl
  | m + 1 => by rw [card_succ, card_sm p m]; rfl
theorem sm_if (p : Nat → Bool) (k : Nat) : ∀ m : Nat, sm (fun i => if p i = true then k else 0) m = k * card p m
  | 0 => rfl
  | m + 1 => by
    show sm (fun i => if p i = true then k else 0) m + (if p m = true then k else 0) = _
    rw [sm_if p k m, card_succ]
    split <;> simp [Nat.mul_add]
/-- each column lets in k signs, each sign is let in by k columns at the most -/
theorem hall_reg {A : Nat → Nat → Bool} {n m k : Nat} (hk : 0 < k) (row : ∀ c, c < n → card (A c) m = k) (col : ∀ s, s < m → card (fun c => A c s) n ≤ k) : Hall A n m := fun S => by
  have e1 : sm (fun c => sm (fun s => if (S c && A c s) = true then 1 else 0) m) n = k * card S n := by
    rw [← sm_if]
    refine sm_congr fun c hc => ?_
    cases hS : S c with
    | false => simp [sm_zero]
    | true =>
      simp only [Bool.true_and, if_true]
      rw [← card_sm, row c hc]
  have e2 : sm (fun s => sm (fun c => if (S c && A c s) = true then 1 else 0) n) m ≤ k * card (nb A n S) m := by
    rw [← sm_if]
    refine sm_le fun s hs => ?_
    rw [← card_sm (fun c => S c && A c s)]
    by_cases h : nb A n S s = true
    · rw [if_pos h]
      refine Nat.le_trans (card_mono fun c _ hc => ?_) (col s hs)
      simp only [Bool.and_eq_true] at hc
      exact hc.2
    · rw [if_neg h]
      refine Nat.le_of_eq ?_
      unfold card
      rw [List.countP_eq_zero]
      intro c hc hz
      simp only [Bool.and_eq_true] at hz
      exact h (nb_iff.mpr ⟨c, List.mem_range.mp hc, hz.1, hz.2⟩)
  rw [sm_comm] at e1
  exact Nat.le_of_mul_le_mul_left (by omega) hk
theorem sdr_reg {A : Nat → Nat → Bool} {n m k : Nat} (hk : 0 < k) (row : ∀ c, c < n → card (A c) m = k) (col : ∀ s, s < m → card (fun c => A c s) n ≤ k) : SDR A n m := hall _ A rfl (hall_reg hk row col)
end PL


/-! PL2: rows that may stand below others. -/
namespace PL
/-- the signs met in a column -/
def met (rows : List (List Nat)) (c : Nat) : List Nat := rows.map fun r => r.getD c 0
def nstep (n : Nat) (rows : List (List Nat)) (found : List (List Nat)) (c : Nat) : List (List Nat) :=
  found.flatMap fun some => ((List.range n).filter fun s => !some.contains s && !(met rows c).contains s).map fun s => some ++ [s]
def nexts (n : Nat) (rows : List (List Nat)) : List (List Nat) := (List.range n).foldl (nstep n rows) [[]]
theorem nexts_mem {n : Nat} {rows : List (List Nat)} : ∀ {k : Nat} {x : List Nat}, x ∈ (List.range k).foldl (nstep n rows) [[]] ↔ (x.length = k ∧ x.Nodup ∧ ∀ c, c < k → x.getD c 0 < n ∧ x.getD c 0 ∉ met rows c)
  | 0, x => by
    simp only [List.range_zero, List.foldl_nil, List.mem_singleton]
    constructor
    · rintro rfl; exact ⟨rfl, List.nodup_nil, fun c h => by omega⟩
    · rintro ⟨h, _⟩; exact List.length_eq_zero_iff.mp h
  | k + 1, x => by
    rw [List.range_succ, List.foldl_append]
    simp only [List.foldl_cons, List.foldl_nil, nstep, List.mem_flatMap, List.mem_map, List.mem_filter, List.mem_range, Bool.and_eq_true, Bool.not_eq_true', List.contains_eq_mem, decide_eq_false_iff_not]
    constructor
    · rintro ⟨y, hy, s, ⟨h1, h2, h3⟩, rfl⟩
      obtain ⟨l, nd, q⟩ := nexts_mem.mp hy
      refine ⟨by simp [l], ?_, fun c hc => ?_⟩
      · rw [List.nodup_append]
        refine ⟨nd, by simp, fun a ha b hb e => ?_⟩
        simp only [List.mem_singleton] at hb
        subst hb; subst e
        exact h2 ha
      · by_cases hck : c < k
        · have e : (y ++ [s]).getD c 0 = y.getD c 0 := by
            rw [List.getD_eq_getElem?_getD, List.getElem?_append_left (by omega), ← List.getD_eq_getElem?_getD]
          rw [e]; exact q c hck
        · have e : c = y.length := by omega
          have e2 : (y ++ [s]).getD c 0 = s := by rw [e]; simp
          rw [e2]
          have e3 : c = k := by omega
          rw [e3]
          exact ⟨h1, h3⟩
    · rintro ⟨l, nd, q⟩
      have hne : x ≠ [] := fun z => by rw [z] at l; simp at l
      have hx := List.dropLast_concat_getLast hne
      have hl : x.dropLast.length = k := by simp [l]
      have hlast : x.getD k 0 = x.getLast hne := by
        have z : (x.dropLast ++ [x.getLast hne]).getD k 0 = x.getLast hne := by rw [← hl]; simp
        rw [hx] at z; exact z
      refine ⟨x.dropLast, nexts_mem.mpr ⟨hl, ?_, fun c hc => ?_⟩, x.getLast hne, ⟨?_, ?_, ?_⟩, hx⟩
      · rw [← hx, List.nodup_append] at nd; exact nd.1
      · have z : (x.dropLast ++ [x.getLast hne]).getD c 0 = x.dropLast.getD c 0 := by
          rw [List.getD_eq_getElem?_getD, List.getElem?_append_left (by omega), ← List.getD_eq_getElem?_getD]
        rw [hx] at z
        rw [← z]; exact q c (by omega)
      · rw [← hlast]; exact (q k (by omega)).1
      · rw [← hx, List.nodup_append] at nd
        exact fun z => nd.2.2 _ z _ (by simp) rfl
      · rw [← hlast]; exact (q k (by omega)).2
/-- rows: each all signs once, no sign twice in a column -/
structure Rect (n : Nat) (rows : List (List Nat)) : Prop where
  len : ∀ r ∈ rows, r.length = n
  lt : ∀ r ∈ rows, ∀ c, c < n → r.getD c 0 < n
  inj : ∀ r ∈ rows, r.Nodup
  col : ∀ c, c < n → (met rows c).Nodup
theorem nodup_card {l : List Nat} {n : Nat} (nd : l.Nodup) (h : ∀ x ∈ l, x < n) : card (fun s => !l.contains s) n + l.length = n := by
  induction l with
  | nil =>
    have : card (fun s => !([] : List Nat).contains s) n = n := by
      unfold card
      rw [List.countP_eq_length.mpr (by simp)]
      simp
    simpa using this
  | cons a l ih =>
    have nd' := List.nodup_cons.mp nd
    have i := ih nd'.2 fun x hx => h x (List.mem_cons_of_mem _ hx)
    have z := card_split (p := fun s => !l.contains s) (h a List.mem_cons_self) (by simp [nd'.1])
    have e : card (fun s => !(a :: l).contains s) n = card (fun i => !l.contains i && !(i == a)) n := card_congr fun s _ => by
      rw [List.contains_cons]
      cases s == a <;> cases l.contains s <;> rfl
    rw [e, List.length_cons]
    omega
theorem all_in {l : List Nat} {n : Nat} (nd : l.Nodup) (hl : l.length = n) (h : ∀ x ∈ l, x < n) {s : Nat} (hs : s < n) : s ∈ l := by
  have z := nodup_card nd h
  rw [hl] at z
  refine Classical.byContradiction fun hn => ?_
  have := card_split (p := fun s => !l.contains s) hs (by simp [hn])
  omega
theorem getD_lt {l : List Nat} {c : Nat} (h : c < l.length) : l.getD c 0 = l[c] := by
  rw [List.getD_eq_getElem?_getD, List.getElem?_eq_getElem h]; rfl
/-- the columns in which a sign stands -/
theorem cols {n s : Nat} (hs : s < n) : ∀ {rows : List (List Nat)}, Rect n rows → ∃ L : List Nat, L.length = rows.length ∧ L.Nodup ∧ (∀ c ∈ L, c < n) ∧ ∀ c, c < n → (s ∈ met rows c ↔ c ∈ L)
  | [], _ => ⟨[], rfl, List.nodup_nil, (fun _ h => by cases h), fun c _ => by simp [met]⟩
  | r :: rows, R => by
    have R' : Rect n rows := ⟨fun x h => R.len x (List.mem_cons_of_mem _ h), fun x h => R.lt x (List.mem_cons_of_mem _ h), fun x h => R.inj x (List.mem_cons_of_mem _ h), fun c hc => (List.nodup_cons.mp (R.col c hc)).2⟩
    obtain ⟨L, l1, l2, l3, l4⟩ := cols hs R'
    have hr := R.len r List.mem_cons_self
    have nd := R.inj r List.mem_cons_self
    have hin : s ∈ r := all_in nd hr (fun x hx => by
      obtain ⟨j, hj, rfl⟩ := List.getElem_of_mem hx
      have := R.lt r List.mem_cons_self j (by omega)
      rw [getD_lt hj] at this; exact this) hs
    obtain ⟨j, hj, ej⟩ := List.getElem_of_mem hin
    have only : ∀ c, c < n → (r.getD c 0 = s ↔ c = j) := fun c hc => by
      rw [getD_lt (by omega), ← ej]
      exact ⟨fun z => (List.getElem_inj nd).mp z, fun z => by subst z; rfl⟩
    refine ⟨j :: L, by simp [l1], List.nodup_cons.mpr ⟨fun hjL => ?_, l2⟩, fun c hc => ?_, fun c hc => ?_⟩
    · have h1 := (l4 j (l3 j hjL)).mpr hjL
      have h2 := R.col j (l3 j hjL)
      have h3 := (List.nodup_cons.mp (show (r.getD j 0 :: met rows j).Nodup from h2)).1
      rw [(only j (l3 j hjL)).mpr rfl] at h3
      exact h3 h1
    · rcases List.mem_cons.mp hc with z | z
      · rw [z]; omega
      · exact l3 c z
    · show s ∈ r.getD c 0 :: met rows c ↔ c ∈ j :: L
      rw [List.mem_cons, List.mem_cons, ← l4 c hc, ← only c hc]
      exact ⟨fun z => z.imp Eq.symm id, fun z => z.imp Eq.symm id⟩
/-- THE FACT (Hall): rows less than n always have one that may stand below -/
theorem nexts_pos {n : Nat} {rows : List (List Nat)} (R : Rect n rows) (h : rows.length < n) : nexts n rows ≠ [] := by
  have row : ∀ c, c < n → card (fun s => !(met rows c).contains s) n = n - rows.length := fun c hc => by
    have z := nodup_card (R.col c hc) fun x hx => by
      obtain ⟨r, hr, rfl⟩ := List.mem_map.mp hx
      exact R.lt r hr c hc
    have e : (met rows c).length = rows.length := by simp [met]
    omega
  have col : ∀ s, s < n → card (fun c => !(met rows c).contains s) n ≤ n - rows.length := fun s hs => by
    obtain ⟨L, l1, l2, l3, l4⟩ := cols hs R
    have z := nodup_card l2 l3
    have e : card (fun c => !(met rows c).contains s) n = card (fun c => !L.contains c) n := card_congr fun c hc => by
      have q := l4 c hc
      by_cases m : s ∈ met rows c
      · simp [m, q.mp m]
      · have : c ∉ L := fun y => m (q.mpr y)
        simp [m, this]
    omega
  obtain ⟨f, f1, f2⟩ := sdr_reg (A := fun c s => !(met rows c).contains s) (k := n - rows.length) (by omega) row col
  have mem : (List.range n).map f ∈ nexts n rows := nexts_mem.mpr ⟨by simp, ?_, fun c hc => ?_⟩
  · intro z; rw [z] at mem; cases mem
  · rw [List.nodup_iff_pairwise_ne, List.pairwise_map]
    refine List.Pairwise.imp_of_mem (R := fun a b => a ≠ b) (fun {a b} ha hb hab e => hab (f2 a b (List.mem_range.mp ha) (List.mem_range.mp hb) e)) List.nodup_range
  · have e : ((List.range n).map f).getD c 0 = f c := by
      rw [getD_lt (by simpa using hc)]; simp
    rw [e]
    obtain ⟨q1, q2⟩ := f1 c hc
    exact ⟨q1, by simpa using q2⟩
end PL


set_option Elab.async false
set_option linter.all false
set_option maxRecDepth 100000
namespace VL
open PySem
/-- numbers as ints -/
def zi (r : List Nat) : List Int := r.map fun (k : Nat) => (k : Int)
def enc (r : List Nat) : Dt := .tuple ((zi r).map .int)
def encs (rs : List (List Nat)) : Dt := .tuple (rs.map enc)
theorem zi_len (r : List Nat) : (zi r).length = r.length := by simp [zi]
theorem zi_mem {r : List Nat} {s : Nat} : ((s : Nat) : Int) ∈ zi r ↔ s ∈ r := by
  unfold zi
  rw [List.mem_map]
  constructor
  · rintro ⟨k, hk, e⟩
    have : k = s := by omega
    rw [← this]; exact hk
  · intro h; exact ⟨s, h, rfl⟩
theorem zi_app (a b : List Nat) : zi (a ++ b) = zi a ++ zi b := by simp [zi]
theorem range_of {n : Nat} (h : n ≤ 1000) : rangeOf [.int (n : Int)] = some ((List.range n).map di) := by
  have h1 : inR (n : Int) = true := by unfold inR; simp; omega
  have h2 : (n : Int).toNat ≤ 16777216 := by omega
  have e : rangeD 0 (n : Int).toNat = (List.range n).map di := by unfold rangeD di; simp
  unfold rangeOf
  simp only [h1, h2, e, and_self, if_true]
theorem fm_of {o : Dt → Option Dt} {p : Nat → Bool} {g : Nat → Dt} (h : ∀ s, o (di s) = if p s = true then some (g s) else none) : ∀ l : List Nat, (l.map di).filterMap o = (l.filter p).map g
  | [] => rfl
  | s :: l => by
    rw [List.map_cons, List.filterMap_cons, h s, fm_of h l]
    cases q : p s <;> simp [List.filter_cons, q]
theorem at_nat {xs : List Dt} {i : Nat} (h : i < xs.length) : L2.atI xs (i : Int) = some (xs.getD i .none) := by
  rw [L2.atI_nat (v := xs[i]) (List.getElem?_eq_getElem h)]
  congr 1
  rw [List.getD_eq_getElem?_getD, List.getElem?_eq_getElem h]; rfl

open PL
def ext (n : Nat) (tk r : List Nat) : List (List Nat) := ((List.range n).filter fun s => !r.contains s && !tk.contains s).map fun s => r ++ [s]
theorem nstep_ext {n : Nat} {rows found : List (List Nat)} {c : Nat} : nstep n rows found c = found.flatMap (ext n (met rows c)) := rfl
theorem ext_len {n : Nat} {tk r : List Nat} : (ext n tk r).length ≤ n := by
  unfold ext
  rw [List.length_map]
  exact Nat.le_trans (List.length_filter_le _ _) (by simp)
def fc (n : Nat) (rows : List (List Nat)) (c : Nat) : List (List Nat) := (List.range c).foldl (nstep n rows) [[]]
theorem fc_succ {n : Nat} {rows : List (List Nat)} {c : Nat} : fc n rows (c + 1) = (fc n rows c).flatMap (ext n (met rows c)) := by
  unfold fc
  rw [List.range_succ, List.foldl_append]
  rfl
theorem flat_len {α β : Type} {f : α → List β} {n : Nat} : ∀ {l : List α}, (∀ x ∈ l, (f x).length ≤ n) → (l.flatMap f).length ≤ l.length * n
  | [], _ => by simp
  | x :: l, h => by
    have ih := flat_len (f := f) (l := l) fun y hy => h y (List.mem_cons_of_mem _ hy)
    have h0 := h x List.mem_cons_self
    rw [List.flatMap_cons, List.length_append, List.length_cons, Nat.succ_mul]
    omega
theorem fc_len {n : Nat} {rows : List (List Nat)} : ∀ c, (fc n rows c).length ≤ n ^ c
  | 0 => by simp [fc]
  | c + 1 => by
    rw [fc_succ, Nat.pow_succ]
    exact Nat.le_trans (flat_len fun _ _ => ext_len) (Nat.mul_le_mul_right _ (fc_len c))
theorem pow_small {n c : Nat} (hn : n ≤ 6) (hc : c ≤ 6) : n ^ c ≤ 46656 := by
  have h1 : n ^ c ≤ 6 ^ c := Nat.pow_le_pow_left hn c
  have h2 : 6 ^ c ≤ 6 ^ 6 := Nat.pow_le_pow_right (by omega) hc
  have h3 : (6 : Nat) ^ 6 = 46656 := by decide
  omega
theorem sz : sizeLine = 16777216 := sizeLine_eq
theorem le_sz {n : Nat} (h : n ≤ 1000000) : n ≤ sizeLine := by rw [sizeLine_eq]; omega
theorem opC_notIn_t (k : Int) (xs : List Int) : opC .NotIn (.int k) (.tuple (xs.map .int)) = some (!decide (k ∈ xs)) := by
  show (inD _ _).map _ = _
  rw [inD_ints]; rfl
theorem opC_notIn_l (k : Int) (xs : List Int) : opC .NotIn (.int k) (.list (xs.map .int)) = some (!decide (k ∈ xs)) := by
  show (inD _ _).map _ = _
  rw [inD_ints]; rfl
theorem cat_t (xs ys : List Dt) (h : xs.length + ys.length ≤ 1000000) : opB .Add (.tuple xs) (.tuple ys) = some (.tuple (xs ++ ys)) := by
  show seqCat _ _ _ = _
  unfold seqCat
  rw [if_pos (le_sz h)]
theorem cat_l (xs ys : List Dt) (h : xs.length + ys.length ≤ 1000000) : opB .Add (.list xs) (.list ys) = some (.list (xs ++ ys)) := by
  show seqCat _ _ _ = _
  unfold seqCat
  rw [if_pos (le_sz h)]
theorem ext_filter {n : Nat} {tk r : List Nat} {o : Dt → Option Dt} (h : ∀ s : Nat, o (di s) = if (!r.contains s && !tk.contains s) = true then some (enc (r ++ [s])) else none) : ((List.range n).map di).filterMap o = (ext n tk r).map enc := by
  unfold ext
  rw [fm_of (p := fun s => !r.contains s && !tk.contains s) (g := fun s => enc (r ++ [s])) h, List.map_map]
  rfl
theorem enc_snoc {r : List Nat} {s : Nat} : enc (r ++ [s]) = .tuple ((zi r).map .int ++ [di s]) := by simp [enc, zi, di]
def oX (n : Nat) (tk r : List Nat) : Dt → Option Dt := fun x => match x with
  | .int s => if s ∈ zi r ∨ s ∈ zi tk then none else some (.tuple ((zi r).map .int ++ [.int s]))
  | _ => none
theorem oX_di {n : Nat} {tk r : List Nat} (s : Nat) : oX n tk r (di s) = if (!r.contains s && !tk.contains s) = true then some (enc (r ++ [s])) else none := by
  rw [enc_snoc]
  simp only [oX, di, zi_mem]
  by_cases h1 : s ∈ r <;> by_cases h2 : s ∈ tk <;> simp [h1, h2]
def itm (c : Nat) : Dt → Dt := fun x => match x with
  | .tuple ds => ds.getD c .none
  | _ => .none
theorem enc_get {r : List Nat} {c : Nat} (h : c < r.length) : ((zi r).map PyData.int).getD c .none = di (r.getD c 0) := by
  simp [zi, di, List.getD_eq_getElem?_getD, List.getElem?_map, List.getElem?_eq_getElem h]
theorem itm_rows {c : Nat} : ∀ {rows : List (List Nat)}, (∀ r ∈ rows, c < r.length) → (rows.map enc).map (itm c) = (zi (met rows c)).map .int
  | [], _ => rfl
  | r :: rows, h => by
    have ih := itm_rows (rows := rows) fun x hx => h x (List.mem_cons_of_mem _ hx)
    simp only [List.map_cons]
    rw [ih]
    show itm c (enc r) :: _ = _
    have e : itm c (enc r) = di (r.getD c 0) := enc_get (h r List.mem_cons_self)
    rw [e]
    rfl
theorem sub_enc {r : List Nat} {c : Nat} (h : c < r.length) : subD (enc r) (.int (c : Int)) = some (itm c (enc r)) := by
  show seqIx _ _ = _
  unfold seqIx
  rw [at_nat (by simpa [zi_len] using h)]
  rfl
theorem updAt_ext (xs ys : List Dt) (h : xs.length + ys.length ≤ 1000000) : updAt (fun d => apMth .extend d [.list ys]) [] (.list xs) = some (.none, .list (xs ++ ys)) := by
  simp [updAt, apMth, le_sz h]
theorem fc_row {n : Nat} {rows : List (List Nat)} : ∀ {c : Nat} {r : List Nat}, r ∈ fc n rows c → r.length = c
  | 0, r, h => by simp [fc] at h; rw [h]; rfl
  | c + 1, r, h => by
    rw [fc_succ] at h
    obtain ⟨y, hy, h⟩ := List.mem_flatMap.mp h
    unfold ext at h
    obtain ⟨s, _, rfl⟩ := List.mem_map.mp h
    rw [List.length_append, fc_row hy]
    rfl
theorem fc_small {n : Nat} {rows : List (List Nat)} (hn : n ≤ 6) {c : Nat} (hc : c ≤ 6) : (fc n rows c).length ≤ 46656 := Nat.le_trans (fc_len c) (pow_small hn hc)
theorem nexts_fc {n : Nat} {rows : List (List Nat)} : nexts n rows = fc n rows n := rfl
end VL


set_option Elab.async false
set_option linter.all false
set_option maxRecDepth 100000
/-! P2: plain facts for the checks of whole numbers, rows and columns. -/
namespace VL
open PySem PL
def isInt : Dt → Bool
  | .int _ => true
  | _ => false
def within (lo hi : Int) : Dt → Bool
  | .int i => decide (lo ≤ i) && decide (i ≤ hi)
  | _ => false
def sized (lo hi : Nat) : Dt → Bool
  | .tuple ds => decide (lo ≤ ds.length) && decide (ds.length ≤ hi)
  | _ => false
theorem opC_le (i j : Int) : opC .LtE (.int i) (.int j) = some (decide (i ≤ j)) := by
  show ordD _ _ _ = _
  unfold ordD
  rw [if_pos ⟨shaped_int i, shaped_int j⟩]
  rfl
theorem opC_lt (i j : Int) : opC .Lt (.int i) (.int j) = some (decide (i < j)) := by
  show ordD _ _ _ = _
  unfold ordD
  rw [if_pos ⟨shaped_int i, shaped_int j⟩]
  rfl
theorem opC_gt (i j : Int) : opC .Gt (.int i) (.int j) = some (decide (j < i)) := by
  show ordD _ _ _ = _
  unfold ordD
  rw [if_pos ⟨shaped_int i, shaped_int j⟩]
  rfl
theorem opC_ge (i j : Int) : opC .GtE (.int i) (.int j) = some (decide (j ≤ i)) := by
  show ordD _ _ _ = _
  unfold ordD
  rw [if_pos ⟨shaped_int i, shaped_int j⟩]
  rfl
theorem opC_eq_int (i j : Int) : opC .Eq (.int i) (.int j) = some (decide (i = j)) := by
  show eqD _ _ = _
  unfold eqD
  rw [if_pos ⟨shaped_int i, shaped_int j⟩, eqv_int]
theorem opC_ne_int (i j : Int) : opC .NotEq (.int i) (.int j) = some (!decide (i = j)) := by
  have h : eqD (.int i) (.int j) = some (decide (i = j)) := by
    unfold eqD
    rw [if_pos ⟨shaped_int i, shaped_int j⟩, eqv_int]
  have h2 : opC .NotEq (.int i) (.int j) = (eqD (.int i) (.int j)).map (!·) := rfl
  rw [h2, h]
  rfl
theorem eqvAll_ints : ∀ (xs ys : List Int), PyData.eqvAll (xs.map .int) (ys.map .int) = decide (xs = ys)
  | [], [] => by simp [PyData.eqvAll]
  | [], y :: ys => by simp [PyData.eqvAll]
  | x :: xs, [] => by simp [PyData.eqvAll]
  | x :: xs, y :: ys => by
    simp only [List.map_cons, PyData.eqvAll, eqv_int, eqvAll_ints xs ys]
    by_cases h : x = y <;> by_cases h2 : xs = ys <;> simp [h, h2]
theorem eqv_lints (xs ys : List Int) : PyData.eqv (.list (xs.map .int)) (.list (ys.map .int)) = decide (xs = ys) := by
  rw [PyData.eqv, eqvAll_ints]
theorem eqv_tints (xs ys : List Int) : PyData.eqv (.tuple (xs.map .int)) (.tuple (ys.map .int)) = decide (xs = ys) := by
  rw [PyData.eqv, eqvAll_ints]
theorem opC_eq_lints (xs ys : List Int) : opC .Eq (.list (xs.map .int)) (.list (ys.map .int)) = some (decide (xs = ys)) := by
  show eqD _ _ = _
  unfold eqD
  rw [if_pos ⟨shaped_ints xs, shaped_ints ys⟩, eqv_lints]
theorem intsOf_ints : ∀ (xs : List Int), intsOf (xs.map .int) = some xs
  | [] => rfl
  | x :: xs => by simp [intsOf, intsOf_ints xs]
theorem boolsOf_bools : ∀ (xs : List Bool), boolsOf (xs.map .bool) = some xs
  | [] => rfl
  | x :: xs => by simp [boolsOf, boolsOf_bools xs]
/-- all of these signs, each once -/
def areAll (n : Nat) : Dt → Bool
  | .tuple ds => decide (ds.length = n) && (ds.all (within 0 ((n : Int) - 1)) && (match intsOf ds with
    | some is => decide (sortInts is = zi (List.range n))
    | none => false))
  | _ => false
theorem within_ints : ∀ {ds : List Dt} {lo hi : Int}, ds.all (within lo hi) = true → ∃ is : List Int, ds = is.map PyData.int
  | [], _, _, _ => ⟨[], rfl⟩
  | d :: ds, lo, hi, h => by
    simp only [List.all_cons, Bool.and_eq_true] at h
    obtain ⟨is, e⟩ := within_ints h.2
    cases d with
    | int i => exact ⟨i :: is, by rw [e]; rfl⟩
    | _ => simp [within] at h
/-! ### sorting -/
theorem ins_sorted {x : Int} : ∀ {l : List Int}, l.Pairwise (· ≤ ·) → (insInt x l).Pairwise (· ≤ ·)
  | [], _ => List.pairwise_singleton _ _
  | y :: l, h => by
    unfold insInt
    have h' := List.pairwise_cons.mp h
    split
    · rename_i hxy
      exact List.pairwise_cons.mpr ⟨fun z hz => by
        rcases List.mem_cons.mp hz with rfl | hz
        · exact hxy
        · exact Int.le_trans hxy (h'.1 z hz), h⟩
    · rename_i hxy
      refine List.pairwise_cons.mpr ⟨fun z hz => ?_, ins_sorted h'.2⟩
      have m : ∀ {l : List Int}, z ∈ insInt x l → z = x ∨ z ∈ l := fun {l} => by
        induction l with
        | nil => intro h; exact .inl (by simpa [insInt] using h)
        | cons w l ih =>
          intro h
          unfold insInt at h
          split at h
          · rcases List.mem_cons.mp h with e | e
            · exact .inl e
            · exact .inr e
          · rcases List.mem_cons.mp h with e | e
            · exact .inr (by rw [e]; exact List.mem_cons_self)
            · rcases ih e with e | e
              · exact .inl e
              · exact .inr (List.mem_cons_of_mem _ e)
      rcases m hz with e | e
      · rw [e]; omega
      · exact h'.1 z e
theorem ins_perm {x : Int} : ∀ {l : List Int}, (insInt x l).Perm (x :: l)
  | [] => List.Perm.refl _
  | y :: l => by
    unfold insInt
    split
    · exact List.Perm.refl _
    · exact (List.Perm.cons y ins_perm).trans (List.Perm.swap x y l)
theorem sort_perm : ∀ (l : List Int), (sortInts l).Perm l
  | [] => List.Perm.refl _
  | x :: l => ins_perm.trans (List.Perm.cons x (sort_perm l))
theorem sort_sorted : ∀ (l : List Int), (sortInts l).Pairwise (· ≤ ·)
  | [] => List.Pairwise.nil
  | x :: l => ins_sorted (sort_sorted l)
theorem sorted_uniq : ∀ {a b : List Int}, a.Perm b → a.Pairwise (· ≤ ·) → b.Pairwise (· ≤ ·) → a = b
  | [], b, p, _, _ => by rw [List.Perm.nil_eq p]
  | x :: a, b, p, ha, hb => by
    cases b with
    | nil => exact absurd p.length_eq (by simp)
    | cons y b =>
      have ha' := List.pairwise_cons.mp ha
      have hb' := List.pairwise_cons.mp hb
      have hx : x ∈ y :: b := p.mem_iff.mp List.mem_cons_self
      have hy : y ∈ x :: a := p.mem_iff.mpr List.mem_cons_self
      have e : x = y := by
        rcases List.mem_cons.mp hx with e | e
        · exact e
        · rcases List.mem_cons.mp hy with f | f
          · exact f.symm
          · exact Int.le_antisymm (ha'.1 y f) (hb'.1 x e)
      subst e
      rw [sorted_uniq (List.Perm.cons_inv p) ha'.2 hb'.2]
theorem range_sorted (n : Nat) : (zi (List.range n)).Pairwise (· ≤ ·) := by
  unfold zi
  rw [List.pairwise_map]
  exact List.Pairwise.imp (fun {a b} h => by omega) (List.pairwise_lt_range)
theorem sort_range {is : List Int} {n : Nat} : sortInts is = zi (List.range n) ↔ is.Perm (zi (List.range n)) :=
  ⟨fun h => by rw [← h]; exact (sort_perm is).symm, fun h => sorted_uniq ((sort_perm is).trans h) (sort_sorted is) (range_sorted n)⟩
/-- a row of all signs -/
theorem perm_range {r : List Nat} {n : Nat} (hl : r.length = n) (hn : r.Nodup) (hlt : ∀ x ∈ r, x < n) : r.Perm (List.range n) :=
  (List.perm_ext_iff_of_nodup hn List.nodup_range).mpr fun x => ⟨fun h => List.mem_range.mpr (hlt x h), fun h => all_in hn hl hlt (List.mem_range.mp h)⟩
theorem areAll_row {r : List Nat} {n : Nat} (hl : r.length = n) (hn : r.Nodup) (hlt : ∀ x ∈ r, x < n) : areAll n (enc r) = true := by
  unfold areAll enc
  simp only [intsOf_ints, Bool.and_eq_true, decide_eq_true_eq]
  refine ⟨by rw [List.length_map, zi_len]; exact hl, ?_, sort_range.mpr ((perm_range hl hn hlt).map _)⟩
  rw [List.all_eq_true]
  intro d hd
  obtain ⟨i, hi, rfl⟩ := List.mem_map.mp hd
  obtain ⟨k, hk, rfl⟩ := List.mem_map.mp hi
  have := hlt k hk
  simp only [within, Bool.and_eq_true, decide_eq_true_eq]
  omega
/-! ### dicts of keys -/
theorem put_len {k : Nat} {v : Dt} {l : List (Dt × Dt)} {K : List Nat} (h : l.map (·.1) = K.map di) : ((putD (di k) v l).map (·.1)) = if k ∈ K then K.map di else (K ++ [k]).map di := by
  have hany : (l.any fun q => PyData.eqv q.1 (di k)) = decide (k ∈ K) := by
    have e : (l.any fun q => PyData.eqv q.1 (di k)) = ((l.map (·.1)).any fun z => PyData.eqv z (di k)) := by rw [List.any_map]; rfl
    rw [e, h, List.any_map]
    induction K with
    | nil => rfl
    | cons a K ih =>
      have ih' : (K.any ((fun z => PyData.eqv z (di k)) ∘ di)) = decide (k ∈ K) := by
        clear ih h e
        induction K with
        | nil => rfl
        | cons b K ih =>
          rw [List.any_cons, ih]
          show (PyData.eqv (.int b) (.int k) || _) = _
          rw [eqv_int]
          by_cases z : k = b
          · subst z; simp
          · have z' : ¬ ((b : Int) = (k : Int)) := by omega
            simp [z, z']
      rw [List.any_cons, ih']
      show (PyData.eqv (.int a) (.int k) || _) = _
      rw [eqv_int]
      by_cases z : k = a
      · subst z; simp
      · have z' : ¬ ((a : Int) = (k : Int)) := by omega
        simp [z, z']
  unfold putD
  rw [hany]
  by_cases hk : k ∈ K
  · rw [if_pos (by simpa using hk), if_pos hk, List.map_map, ← h]
    apply List.map_congr_left
    intro q _
    simp only [Function.comp]
    split <;> rfl
  · rw [if_neg (by simpa using hk), if_neg hk, List.map_append, h, List.map_append]
    rfl
/-- how many keys come -/
theorem keys_of {f : Dt → Dt} : ∀ {ks : List Nat} {K : List Nat} {l : List (Dt × Dt)} {v : Dt} {xs : List Dt}, xs.map f = ks.map di → l.map (·.1) = K.map di → K.Nodup → ∃ K' : List Nat, ((xs.foldl (fun l x => putD (f x) v l) l).map (·.1)) = K'.map di ∧ K'.Nodup ∧ K'.length ≤ K.length + ks.length ∧ (K'.length = K.length + ks.length ↔ (K ++ ks).Nodup)
  | [], K, l, v, xs, hx, h, nd => by
    have : xs = [] := by simpa using hx
    subst this
    exact ⟨K, h, nd, by simp, by simp [nd]⟩
  | k :: ks, K, l, v, xs, hx, h, nd => by
    cases xs with
    | nil => simp at hx
    | cons x xs =>
      simp only [List.map_cons, List.cons.injEq] at hx
      obtain ⟨hx1, hx2⟩ := hx
      rw [List.foldl_cons, hx1]
      have hp := put_len (k := k) (v := v) h
      by_cases hk : k ∈ K
      · rw [if_pos hk] at hp
        obtain ⟨K', h1, h2, h3, h4⟩ := keys_of (v := v) hx2 hp nd
        refine ⟨K', h1, h2, by simp only [List.length_cons]; omega, ?_⟩
        constructor
        · intro z
          simp only [List.length_cons] at z
          omega
        · intro z
          exfalso
          rw [List.nodup_append] at z
          exact z.2.2 k hk k List.mem_cons_self rfl
      · rw [if_neg hk] at hp
        have nd' : (K ++ [k]).Nodup := by
          rw [List.nodup_append]
          exact ⟨nd, by simp, fun a ha b hb e => hk (by simp at hb; rw [← hb, ← e]; exact ha)⟩
        obtain ⟨K', h1, h2, h3, h4⟩ := keys_of (v := v) hx2 hp nd'
        refine ⟨K', h1, h2, by simp only [List.length_append, List.length_cons, List.length_nil] at h3 ⊢; omega, ?_⟩
        have e1 : (K ++ [k]).length + ks.length = K.length + (k :: ks).length := by simp; omega
        have e2 : K ++ [k] ++ ks = K ++ k :: ks := by simp
        rw [e1, e2] at h4
        exact h4
end VL


set_option Elab.async false
set_option linter.all false
set_option maxRecDepth 100000
namespace VL
open PySem PL
theorem v_is_integer (d : Dt) : Gv F_is_integer [d] (.bool (isInt d)) := by
  refine run_gv rfl (e' := [d]) ?_
  cases d <;> simp [b_is_integer, List.replicate, isiD, isInt, truD]
@[simp] theorem w_is_integer (d : Dt) (e : Ev) : vof F_is_integer [d] e = .ok (.bool (isInt d), e) := vof_gv (v_is_integer d)
theorem v_is_within (d : Dt) (lo hi : Int) : Gv F_is_within [d, .int lo, .int hi] (.bool (within lo hi d)) := by
  refine run_gv rfl (e' := [d, .int lo, .int hi]) ?_
  cases d with
  | int i => by_cases h : lo ≤ i <;> simp [b_is_within, List.replicate, isInt, within, opC_le, h]
  | _ => simp [b_is_within, List.replicate, isInt, within]
@[simp] theorem w_is_within (d : Dt) (lo hi : Int) (e : Ev) : vof F_is_within [d, .int lo, .int hi] e = .ok (.bool (within lo hi d), e) := vof_gv (v_is_within d lo hi)
theorem v_is_sized (d : Dt) (lo hi : Nat) : Gv F_is_sized [d, .int lo, .int hi] (.bool (sized lo hi d)) := by
  refine run_gv rfl (e' := [d, .int lo, .int hi]) ?_
  cases d with
  | tuple ds => by_cases h : lo ≤ ds.length <;> simp [b_is_sized, List.replicate, sized, opC_le, h, isiD, apB1]
  | _ => simp [b_is_sized, List.replicate, sized, isiD]
@[simp] theorem w_is_sized (d : Dt) (lo hi : Nat) (e : Ev) : vof F_is_sized [d, .int lo, .int hi] e = .ok (.bool (sized lo hi d), e) := vof_gv (v_is_sized d lo hi)
theorem v_are_all_1 {ds : List Dt} {n : Int} {x2 : Dt} (hz : ds.length ≤ 1000) : ev T_are_all b_are_all_1 [.tuple ds, .int n, x2] = .ok (.list (ds.map fun d => .bool (within 0 (n - 1) d)), [.tuple ds, .int n, x2]) := by
  unfold b_are_all_1
  rw [lc0 (fun d => .bool (within 0 (n - 1) d)) (xs := ds) (by simp [seqOf]) (le_sz (by omega)) fun x hx => ?_]
  simp [opB, chkT]
theorem all_map (p : Dt → Bool) (ds : List Dt) : apB1 .all (.list (ds.map fun d => .bool (p d))) = some (.bool (ds.all p)) := by
  have hb : boolsOf (ds.map fun d => PyData.bool (p d)) = some (ds.map p) := by
    rw [← boolsOf_bools, List.map_map]; rfl
  show (boolsOf _).map _ = _
  rw [hb]
  show some (PyData.bool ((ds.map p).all id)) = _
  rw [List.all_map]; rfl
theorem v_are_all (d : Dt) (n : Nat) (hn : n ≤ 1000) : Gv F_are_all [d, .int n] (.bool (areAll n d)) := by
  refine run_gv rfl (e' := [d, .int n, .none]) ?_
  cases d with
  | tuple ds =>
    by_cases h : ds.length = n
    · have hrg : rangeOf [.int (n : Int)] = some ((zi (List.range n)).map .int) := by rw [range_of hn]; simp [zi, di]
      have e1 := v_are_all_1 (ds := ds) (n := n) (x2 := .none) (by omega)
      by_cases h2 : ds.all (within 0 ((n : Int) - 1)) = true
      · obtain ⟨is, hd⟩ := within_ints h2
        have hs : apB1 .sorted (.tuple ds) = some (.list ((sortInts is).map .int)) := by
          rw [hd]
          show (intsOf _).map _ = _
          rw [intsOf_ints]; rfl
        have hl : ∀ xs : List Dt, apB1 .list (.list xs) = some (.list xs) := fun _ => rfl
        have ar : areAll n (.tuple ds) = decide (sortInts is = zi (List.range n)) := by
          have ar0 : areAll n (.tuple ds) = (decide (ds.length = n) && (ds.all (within 0 ((n : Int) - 1)) && (match intsOf ds with
            | some is => decide (sortInts is = zi (List.range n))
            | none => false))) := rfl
          have hi : intsOf ds = some is := by rw [hd, intsOf_ints]
          rw [ar0, h2, hi]
          simp [h]
        rw [ar]
        simp [b_are_all, List.replicate, sized, h, e1, all_map, h2, hs, hl, hrg, opC_eq_lints]
      · simp [b_are_all, List.replicate, sized, h, e1, all_map, h2, areAll]
    · have h' : (decide (n ≤ ds.length) && decide (ds.length ≤ n)) = false := by
        rw [Bool.and_eq_false_iff]
        simp only [decide_eq_false_iff_not]
        omega
      simp only [areAll, h, decide_false, Bool.false_and]
      simp [-Bool.and_eq_true, -Bool.not_and, b_are_all, List.replicate, sized, h']
  | _ => simp [b_are_all, List.replicate, sized, areAll]
@[simp] theorem w_are_all (d : Dt) (n : Nat) (hn : n ≤ 1000) (e : Ev) : vof F_are_all [d, .int n] e = .ok (.bool (areAll n d), e) := vof_gv (v_are_all d n hn)
end VL


set_option Elab.async false
set_option linter.all false
set_option maxRecDepth 100000
namespace VL
open PySem PL
/-- the keys of one column -/
def colK (c : Nat) (ds : List Dt) : List (Dt × Dt) := ds.foldl (fun l x => putD (itm c x) (.bool true) l) []
def colq (ds : List Dt) : Dt → Bool
  | .int c => decide (((colK c.toNat ds).length : Int) = (ds.length : Int))
  | _ => false
def colsB (n : Nat) (ds : List Dt) : Bool := ((List.range n).map di).all (colq ds)
theorem sub_ints {is : List Int} {c : Nat} (h : c < is.length) : subD (.tuple (is.map .int)) (.int (c : Int)) = some (itm c (.tuple (is.map .int))) := by
  show seqIx _ _ = _
  unfold seqIx
  rw [at_nat (by simpa using h)]
  rfl
theorem key_ints {is : List Int} {c : Nat} (h : c < is.length) : keyD (itm c (.tuple (is.map .int))) = true := by
  have e : itm c (.tuple (is.map .int)) = .int (is.getD c 0) := by
    simp [itm, List.getD_eq_getElem?_getD, List.getElem?_map, List.getElem?_eq_getElem h]
  rw [e]; rfl
theorem put_kind {p : Dt → Bool} {k v : Dt} {l : List (Dt × Dt)} (hk : p k = true) (h : l.all (fun q => p q.1) = true) : (putD k v l).all (fun q => p q.1) = true := by
  rw [List.all_eq_true] at h ⊢
  intro q hq
  unfold putD at hq
  split at hq
  · obtain ⟨q0, h0, rfl⟩ := List.mem_map.mp hq
    split <;> exact h q0 h0
  · rcases List.mem_append.mp hq with h1 | h1
    · exact h q h1
    · rw [List.mem_singleton.mp h1]; exact hk
theorem fold_kind {p : Dt → Bool} {kf vf : Dt → Dt} : ∀ {xs : List Dt} {l : List (Dt × Dt)}, (∀ x ∈ xs, p (kf x) = true) → l.all (fun q => p q.1) = true → (xs.foldl (fun l x => putD (kf x) (vf x) l) l).all (fun q => p q.1) = true
  | [], _, _, h => h
  | x :: xs, l, hx, h => fold_kind (xs := xs) (fun y hy => hx y (List.mem_cons_of_mem _ hy)) (put_kind (hx x List.mem_cons_self) h)
theorem colK_kind {n c : Nat} {ds : List Dt} (hc : c < n) (hk : ∀ x ∈ ds, ∃ is : List Int, x = .tuple (is.map .int) ∧ is.length = n) : kindB (ds.foldl (fun l x => putD (itm c x) (.bool true) l) []) = true := by
  unfold kindB
  rw [fold_kind (p := keyD) (kf := itm c) (vf := fun _ => .bool true) (fun x hx => ?_) rfl]
  · rfl
  · obtain ⟨is, rfl, hl⟩ := hk x hx
    exact key_ints (by omega)
theorem v_are_columns_2 {ds : List Dt} {n : Nat} {x2 x3 : Dt} (hn : n ≤ 1000) (hz : ds.length ≤ 1000) (hk : ∀ x ∈ ds, ∃ is : List Int, x = .tuple (is.map .int) ∧ is.length = n) :
    ev T_are_columns b_are_columns_2 [.tuple ds, .int n, x2, x3] = .ok (.list (((List.range n).map di).map fun d => .bool (colq ds d)), [.tuple ds, .int n, x2, x3]) := by
  unfold b_are_columns_2
  rw [lc0 (fun d => .bool (colq ds d)) (xs := (List.range n).map di) (by simp [range_of hn]) (by rw [List.length_map, List.length_range]; exact le_sz (by omega)) fun x hx => ?_]
  obtain ⟨c, hc, rfl⟩ := List.mem_map.mp hx
  have hc := List.mem_range.mp hc
  have hd : ev T_are_columns b_are_columns_1 [.tuple ds, .int n, di c, x3] = .ok (.dict (colK c ds), [.tuple ds, .int n, di c, x3]) := by
    unfold b_are_columns_1
    rw [dc1 (itm c) (fun _ => .bool true) (xs := ds) (by simp) (le_sz (by omega)) (fun x hx => ?_) (colK_kind (n := n) hc hk)]
    · rfl
    · obtain ⟨is, rfl, hl⟩ := hk x hx
      have hc' : c < is.length := by omega
      refine ⟨by simp [di, sub_ints hc'], by simp, by rw [key_ints hc']; rfl⟩
  simp [hd, opC_eq_int]
  simp [di, colq]
theorem v_are_columns {ds r0 : List Dt} {n : Nat} (hn : n ≤ 1000) (hz : ds.length ≤ 1000) (h0 : ds[0]? = some (.tuple r0)) (hr : r0.length = n) (hk : ∀ x ∈ ds, ∃ is : List Int, x = .tuple (is.map .int) ∧ is.length = n) : Gv F_are_columns [.tuple ds] (.bool (colsB n ds)) := by
  have s0 : subD (.tuple ds) (.int 0) = some (.tuple r0) := by
    show seqIx ds ((0 : Nat) : Int) = _
    unfold seqIx
    rw [L2.atI_nat h0]
  refine run_gv rfl (e' := [.tuple ds, .int n, .none, .none]) ?_
  simp [-List.map_map, -List.all_map, b_are_columns, List.replicate, s0, hr, v_are_columns_2 hn hz hk, all_map, colsB]
theorem areAll_ints {n : Nat} {x : Dt} (h : areAll n x = true) : ∃ is : List Int, x = .tuple (is.map .int) ∧ is.length = n := by
  cases x with
  | tuple ds =>
    have ar0 : areAll n (.tuple ds) = (decide (ds.length = n) && (ds.all (within 0 ((n : Int) - 1)) && (match intsOf ds with
            | some is => decide (sortInts is = zi (List.range n))
            | none => false))) := rfl
    rw [ar0] at h
    simp only [Bool.and_eq_true, decide_eq_true_eq] at h
    obtain ⟨is, rfl⟩ := within_ints h.2.1
    exact ⟨is, rfl, by simpa using h.1⟩
  | _ => simp [areAll] at h
end VL


set_option Elab.async false
set_option linter.all false
set_option maxRecDepth 100000
namespace VL
open PySem PL
/-- is it a square? -/
def squareB : Dt → Bool
  | .tuple ds => decide (1 ≤ ds.length) && (decide (ds.length ≤ 6) && (ds.all (areAll ds.length) && colsB ds.length ds))
  | _ => false
theorem squareB_t (ds : List Dt) : squareB (.tuple ds) = (decide (1 ≤ ds.length) && (decide (ds.length ≤ 6) && (ds.all (areAll ds.length) && colsB ds.length ds))) := rfl
theorem v_is_square_1 {ds : List Dt} {x1 : Dt} (hz : ds.length ≤ 1000) : ev T_is_square b_is_square_1 [.tuple ds, x1] = .ok (.list (ds.map fun d => .bool (areAll ds.length d)), [.tuple ds, x1]) := by
  unfold b_is_square_1
  rw [lc0 (fun d => .bool (areAll ds.length d)) (xs := ds) (by simp) (le_sz (by omega)) fun x hx => ?_]
  simp [hz]
theorem v_is_square (d : Dt) : Gv F_is_square [d] (.bool (squareB d)) := by
  have z1 : ∀ d e, vof F_is_sized [d, .int 1, .int 6] e = .ok (.bool (sized 1 6 d), e) := fun d e => w_is_sized d 1 6 e
  have ns : ∀ d : Dt, sized 1 6 d = false → squareB d = false → Gv F_is_square [d] (.bool (squareB d)) := fun d h1 h2 => by
    refine run_gv rfl (e' := [d, .none]) ?_
    rw [h2]
    simp [b_is_square, List.replicate, z1, h1]
  cases d with
  | tuple ds =>
    by_cases h1 : 1 ≤ ds.length
    · by_cases h6 : ds.length ≤ 6
      · have hs : sized 1 6 (.tuple ds) = true := by simp [sized, h1, h6]
        have hw := v_is_square_1 (ds := ds) (x1 := .none) (by omega)
        refine run_gv rfl (e' := [.tuple ds, .none]) ?_
        by_cases h3 : ds.all (areAll ds.length) = true
        · obtain ⟨d0, hd0⟩ : ∃ d0, ds[0]? = some d0 := ⟨_, List.getElem?_eq_getElem (by omega)⟩
          obtain ⟨is, rfl, hl⟩ := areAll_ints (List.all_eq_true.mp h3 d0 (List.mem_of_getElem? hd0))
          have hc := v_are_columns (ds := ds) (n := ds.length) (by omega) (by omega) hd0 (by simpa using hl) fun x hx => areAll_ints (List.all_eq_true.mp h3 x hx)
          have hb : squareB (.tuple ds) = colsB ds.length ds := by
            rw [squareB_t, h3]
            simp [h1, h6]
          rw [hb]
          simp [-List.all_eq_true, b_is_square, List.replicate, z1, hs, hw, all_map, h3, vof_gv hc]
        · have hb : squareB (.tuple ds) = false := by
            rw [Bool.not_eq_true] at h3
            rw [squareB_t, h3]
            simp
          rw [Bool.not_eq_true] at h3
          rw [hb]
          simp [-List.all_eq_true, -List.all_eq_false, b_is_square, List.replicate, z1, hs, hw, all_map, h3]
      · exact ns _ (by simp [sized, h6]) (by rw [squareB_t]; simp [h6])
    · exact ns _ (by simp [sized, h1]) (by rw [squareB_t]; simp [h1])
  | _ => exact ns _ rfl rfl
@[simp] theorem w_is_square (d : Dt) (e : Ev) : vof F_is_square [d] e = .ok (.bool (squareB d), e) := vof_gv (v_is_square d)
theorem v_check_square {d : Dt} (h : squareB d = true) : Gv F_check_square [d] .none := by
  refine run_end rfl (e' := [d]) ?_
  simp [b_check_square, List.replicate, h]
theorem r_check_square {d : Dt} (h : squareB d = false) : Rs F_check_square [d] "NoSquare" [] := by
  refine run_rs rfl ?_
  simp [b_check_square, List.replicate, h]
end VL


set_option Elab.async false
set_option linter.all false
set_option maxRecDepth 100000
namespace VL
open PySem PL
/-! ### rows that may stand -/
theorem met_app (a b : List (List Nat)) (c : Nat) : met (a ++ b) c = met a c ++ met b c := by simp [met]
theorem rect_nil (n : Nat) : Rect n [] := ⟨(fun _ h => by cases h), (fun _ h => by cases h), (fun _ h => by cases h), fun _ _ => List.nodup_nil⟩
theorem nexts_iff {n : Nat} {rows : List (List Nat)} {x : List Nat} : x ∈ nexts n rows ↔ (x.length = n ∧ x.Nodup ∧ ∀ c, c < n → x.getD c 0 < n ∧ x.getD c 0 ∉ met rows c) := nexts_mem
theorem rect_snoc {n : Nat} {rows : List (List Nat)} {r : List Nat} (R : Rect n rows) (h : r ∈ nexts n rows) : Rect n (rows ++ [r]) := by
  obtain ⟨h1, h2, h3⟩ := nexts_iff.mp h
  refine ⟨fun x hx => ?_, fun x hx => ?_, fun x hx => ?_, fun c hc => ?_⟩
  · rcases List.mem_append.mp hx with hx | hx
    · exact R.len x hx
    · rw [List.mem_singleton.mp hx]; exact h1
  · rcases List.mem_append.mp hx with hx | hx
    · exact R.lt x hx
    · rw [List.mem_singleton.mp hx]; exact fun c hc => (h3 c hc).1
  · rcases List.mem_append.mp hx with hx | hx
    · exact R.inj x hx
    · rw [List.mem_singleton.mp hx]; exact h2
  · rw [met_app, List.nodup_append]
    refine ⟨R.col c hc, by simp [met], fun a ha b hb e => ?_⟩
    have hb' : b = r.getD c 0 := by simpa [met] using hb
    rw [e, hb'] at ha
    exact (h3 c hc).2 ha
theorem rect_pre {n : Nat} {a b : List (List Nat)} (R : Rect n (a ++ b)) : Rect n a :=
  ⟨fun x hx => R.len x (List.mem_append_left _ hx), fun x hx => R.lt x (List.mem_append_left _ hx), fun x hx => R.inj x (List.mem_append_left _ hx), fun c hc => by
    have := R.col c hc
    rw [met_app, List.nodup_append] at this
    exact this.1⟩
theorem rect_lt {n : Nat} {rows : List (List Nat)} (R : Rect n rows) {r : List Nat} (h : r ∈ rows) : ∀ x ∈ r, x < n := fun x hx => by
  obtain ⟨i, hi, rfl⟩ := List.getElem_of_mem hx
  have := R.lt r h i (by rw [← R.len r h]; exact hi)
  rw [getD_lt hi] at this
  exact this
theorem rect_cols {n : Nat} {rows : List (List Nat)} (R : Rect n rows) {c : Nat} (hc : c < n) : (met rows c).length ≤ n ∧ ∀ s ∈ met rows c, s < n := by
  have hm : ∀ s ∈ met rows c, s < n := fun s hs => by
    obtain ⟨r, hr, rfl⟩ := List.mem_map.mp hs
    exact R.lt r hr c hc
  have := nodup_card (R.col c hc) hm
  exact ⟨by omega, hm⟩
theorem rect_len {n : Nat} {rows : List (List Nat)} (R : Rect n rows) (hn : 0 < n) : rows.length ≤ n := by
  have := (rect_cols R hn).1
  simpa [met] using this
/-- nothing comes after the last row -/
theorem nexts_full {n : Nat} {rows : List (List Nat)} (R : Rect n rows) (hn : 0 < n) (hl : rows.length = n) : nexts n rows = [] := by
  refine List.eq_nil_iff_forall_not_mem.mpr fun x hx => ?_
  have h := (nexts_iff.mp hx).2.2 0 hn
  exact h.2 (all_in (R.col 0 hn) (by simpa [met] using hl) (rect_cols R hn).2 h.1)
def hd (n : Nat) (rows : List (List Nat)) : List Nat := (nexts n rows).headD []
theorem hd_cons {n : Nat} {rows : List (List Nat)} (R : Rect n rows) (h : rows.length < n) : ∃ t, nexts n rows = hd n rows :: t := by
  obtain ⟨a, t, e⟩ := List.exists_cons_of_ne_nil (nexts_pos R h)
  exact ⟨t, by unfold hd; rw [e]; rfl⟩
theorem hd_mem {n : Nat} {rows : List (List Nat)} (R : Rect n rows) (h : rows.length < n) : hd n rows ∈ nexts n rows := by
  obtain ⟨t, e⟩ := hd_cons R h
  rw [e]; exact List.mem_cons_self
/-- so many rows more -/
def fin (n : Nat) : Nat → List (List Nat) → List (List Nat)
  | 0, rows => rows
  | k + 1, rows => fin n k (rows ++ [hd n rows])
theorem fin_snoc (n : Nat) : ∀ (k : Nat) (rows : List (List Nat)), fin n (k + 1) rows = fin n k rows ++ [hd n (fin n k rows)]
  | 0, rows => rfl
  | k + 1, rows => by
    show fin n (k + 1) (rows ++ [hd n rows]) = _
    rw [fin_snoc n k]; rfl
theorem fin_len (n : Nat) : ∀ (k : Nat) (rows : List (List Nat)), (fin n k rows).length = rows.length + k
  | 0, rows => rfl
  | k + 1, rows => by rw [fin, fin_len n k]; simp; omega
theorem fin_rect {n : Nat} : ∀ {k : Nat} {rows : List (List Nat)}, Rect n rows → rows.length + k ≤ n → Rect n (fin n k rows)
  | 0, rows, R, _ => R
  | k + 1, rows, R, h => fin_rect (k := k) (rows := rows ++ [hd n rows]) (rect_snoc R (hd_mem R (by omega))) (by simp; omega)
theorem fin_add (n : Nat) : ∀ (j i : Nat) (rows : List (List Nat)), fin n i (fin n j rows) = fin n (j + i) rows
  | 0, i, rows => by rw [Nat.zero_add]; rfl
  | j + 1, i, rows => by
    rw [show j + 1 + i = (j + i) + 1 by omega]
    exact fin_add n j i (rows ++ [hd n rows])
theorem fin_take (n : Nat) (rows : List (List Nat)) : ∀ (i j : Nat), (fin n (j + i) rows).take (rows.length + j) = fin n j rows
  | 0, j => by rw [Nat.add_zero, ← fin_len n j rows, List.take_length]
  | i + 1, j => by
    rw [show j + (i + 1) = (j + i) + 1 by omega, fin_snoc, List.take_append_of_le_length (by rw [fin_len]; omega)]
    exact fin_take n rows i j
theorem fin_get (n : Nat) (rows : List (List Nat)) (i j : Nat) : (fin n (j + 1 + i) rows)[rows.length + j]? = some (hd n (fin n j rows)) := by
  have h := fin_take n rows i (j + 1)
  rw [fin_snoc] at h
  have h2 : ((fin n (j + 1 + i) rows).take (rows.length + (j + 1)))[rows.length + j]? = (fin n (j + 1 + i) rows)[rows.length + j]? := by
    rw [List.getElem?_take]; simp
  rw [← h2, h, List.getElem?_append_right (by rw [fin_len]; omega), fin_len]
  simp
theorem fin_ne {n : Nat} {rows : List (List Nat)} (h : rows ≠ []) (k : Nat) : fin n k rows ≠ [] := by
  intro e
  have := fin_len n k rows
  rw [e] at this
  simp at this
  exact h (List.length_eq_zero_iff.mp (by omega))
/-- the whole square -/
def sqr (n : Nat) (rows : List (List Nat)) : List (List Nat) := fin n (n - rows.length) rows
theorem sq_rect {n : Nat} {rows : List (List Nat)} (R : Rect n rows) (h : rows.length ≤ n) : Rect n (sqr n rows) := fin_rect R (by omega)
theorem sq_len {n : Nat} {rows : List (List Nat)} (h : rows.length ≤ n) : (sqr n rows).length = n := by
  unfold sqr
  rw [fin_len]; omega
theorem sq_sq {n : Nat} {rows : List (List Nat)} (h : rows.length ≤ n) : sqr n (sqr n rows) = sqr n rows := by
  have e := sq_len h
  show fin n (n - (sqr n rows).length) (sqr n rows) = _
  rw [e, Nat.sub_self]; rfl
/-! ### order -/
def Lx {α : Type} (lt : α → α → Prop) : List α → List α → Prop
  | a :: as, b :: bs => lt a b ∨ (a = b ∧ Lx lt as bs)
  | _, _ => False
theorem lx_app {α : Type} {lt : α → α → Prop} : ∀ {a b x y : List α}, Lx lt a b → Lx lt (a ++ x) (b ++ y)
  | [], b, _, _, h => by cases b <;> exact h.elim
  | a :: as, [], _, _, h => h.elim
  | a :: as, b :: bs, x, y, h => by
    rcases h with h | ⟨h1, h2⟩
    · exact .inl h
    · exact .inr ⟨h1, lx_app h2⟩
theorem lx_last {α : Type} {lt : α → α → Prop} {s t : α} (h : lt s t) : ∀ (r : List α), Lx lt (r ++ [s]) (r ++ [t])
  | [] => .inl h
  | a :: r => .inr ⟨rfl, lx_last h r⟩
theorem lx_flat {α : Type} {lt : α → α → Prop} {g : List α → List α} : ∀ {found : List (List α)}, found.Pairwise (Lx lt) → (∀ r ∈ found, (g r).Pairwise lt) → (found.flatMap fun r => (g r).map fun s => r ++ [s]).Pairwise (Lx lt)
  | [], _, _ => List.Pairwise.nil
  | r :: found, h, hg => by
    have h' := List.pairwise_cons.mp h
    rw [List.flatMap_cons, List.pairwise_append]
    refine ⟨?_, lx_flat h'.2 fun x hx => hg x (List.mem_cons_of_mem _ hx), fun a ha b hb => ?_⟩
    · rw [List.pairwise_map]
      exact (hg r List.mem_cons_self).imp fun hs => lx_last hs r
    · obtain ⟨s, _, rfl⟩ := List.mem_map.mp ha
      obtain ⟨x, hx, hb⟩ := List.mem_flatMap.mp hb
      obtain ⟨t, _, rfl⟩ := List.mem_map.mp hb
      exact lx_app (h'.1 x hx)
abbrev lt1 : List Nat → List Nat → Prop := Lx (· < ·)
abbrev lt2 : List (List Nat) → List (List Nat) → Prop := Lx lt1
theorem fc_asc {n : Nat} {rows : List (List Nat)} : ∀ c : Nat, (fc n rows c).Pairwise lt1
  | 0 => List.pairwise_singleton _ _
  | c + 1 => by
    rw [fc_succ]
    exact lx_flat (g := fun r => (List.range n).filter fun s => !r.contains s && !(met rows c).contains s) (fc_asc c) fun r _ => List.Pairwise.filter _ List.pairwise_lt_range
theorem nexts_asc (n : Nat) (rows : List (List Nat)) : (nexts n rows).Pairwise lt1 := fc_asc n
/-- all ways on -/
def ons (n : Nat) (rows : List (List Nat)) : Nat → List (List (List Nat))
  | 0 => [rows]
  | k + 1 => (ons n rows k).flatMap fun some => (nexts n some).map fun r => some ++ [r]
theorem ons_asc {n : Nat} {rows : List (List Nat)} : ∀ k : Nat, (ons n rows k).Pairwise lt2
  | 0 => List.pairwise_singleton _ _
  | k + 1 => lx_flat (g := nexts n) (ons_asc k) fun r _ => nexts_asc n r
theorem ons_hd {n : Nat} {rows : List (List Nat)} (R : Rect n rows) : ∀ {k : Nat}, rows.length + k ≤ n → ∃ t, ons n rows k = fin n k rows :: t
  | 0, _ => ⟨[], rfl⟩
  | k + 1, h => by
    obtain ⟨t, e⟩ := ons_hd R (k := k) (by omega)
    obtain ⟨u, f⟩ := hd_cons (fin_rect R (k := k) (by omega)) (by rw [fin_len]; omega)
    rw [fin_snoc]
    refine ⟨(u.map fun r => fin n k rows ++ [r]) ++ t.flatMap fun some => (nexts n some).map fun r => some ++ [r], ?_⟩
    rw [ons, e, List.flatMap_cons, f]
    rfl
theorem ons_row {n : Nat} {rows : List (List Nat)} (hl : ∀ r ∈ rows, r.length = n) : ∀ {k : Nat} {x : List (List Nat)}, x ∈ ons n rows k → (∀ r ∈ x, r.length = n) ∧ x.length = rows.length + k
  | 0, x, h => by rw [List.mem_singleton.mp h]; exact ⟨hl, rfl⟩
  | k + 1, x, h => by
    obtain ⟨y, hy, h⟩ := List.mem_flatMap.mp h
    obtain ⟨r, hr, rfl⟩ := List.mem_map.mp h
    obtain ⟨i1, i2⟩ := ons_row hl hy
    refine ⟨fun z hz => ?_, by simp [i2]; omega⟩
    rcases List.mem_append.mp hz with hz | hz
    · exact i1 z hz
    · rw [List.mem_singleton.mp hz]; exact (nexts_iff.mp hr).1
theorem nexts_len {n : Nat} {rows : List (List Nat)} (hn : n ≤ 4) : (nexts n rows).length ≤ 256 := by
  have h := fc_len (n := n) (rows := rows) n
  have h1 : n ^ n ≤ 4 ^ n := Nat.pow_le_pow_left hn n
  have h2 : 4 ^ n ≤ 4 ^ 4 := Nat.pow_le_pow_right (by omega) hn
  have h3 : (4 : Nat) ^ 4 = 256 := by decide
  rw [nexts_fc]; omega
theorem ons_len {n : Nat} {rows : List (List Nat)} (hn : n ≤ 4) : ∀ k : Nat, (ons n rows k).length ≤ 256 ^ k
  | 0 => by simp [ons]
  | k + 1 => by
    rw [ons, Nat.pow_succ]
    exact Nat.le_trans (flat_len fun x _ => by rw [List.length_map]; exact nexts_len hn) (Nat.mul_le_mul_right _ (ons_len hn k))
/-! ### the order of rows as values -/
theorem lxO {α : Type} {f : α → Dt} {lt : α → α → Prop} (tot : ∀ a b, ∃ r, ordV .Lt (f a) (f b) = some r) (re : ∀ a, PyData.eqv (f a) (f a) = true) (h : ∀ a b, lt a b → ordV .Lt (f b) (f a) = some false ∧ PyData.eqv (f b) (f a) = false) (tots : ∀ xs ys : List α, ∃ r, ordVs .Lt (xs.map f) (ys.map f) = some r) :
    ∀ {xs ys : List α}, Lx lt xs ys → ordVs .Lt (ys.map f) (xs.map f) = some false ∧ PyData.eqvAll (ys.map f) (xs.map f) = false
  | [], ys, z => by cases ys <;> exact z.elim
  | x :: xs, [], z => z.elim
  | x :: xs, y :: ys, z => by
    simp only [List.map_cons, ordVs, PyData.eqvAll]
    rcases z with z | ⟨z1, z2⟩
    · obtain ⟨h1, h2⟩ := h x y z
      obtain ⟨r, hr⟩ := tots ys xs
      rw [h1, h2, hr]
      exact ⟨rfl, rfl⟩
    · subst z1
      obtain ⟨i1, i2⟩ := lxO tot re h tots z2
      obtain ⟨r, hr⟩ := tot x x
      rw [hr, i1, i2, re x]
      exact ⟨rfl, rfl⟩
theorem totS {α : Type} {f : α → Dt} (tot : ∀ a b, ∃ r, ordV .Lt (f a) (f b) = some r) : ∀ xs ys : List α, ∃ r, ordVs .Lt (xs.map f) (ys.map f) = some r
  | [], ys => ⟨_, rfl⟩
  | x :: xs, [] => ⟨_, rfl⟩
  | x :: xs, y :: ys => by
    obtain ⟨a, ha⟩ := tot x y
    obtain ⟨b, hb⟩ := totS tot xs ys
    simp only [List.map_cons, ordVs, ha, hb]
    exact ⟨_, rfl⟩
theorem enc_map (r : List Nat) : enc r = .tuple (r.map di) := by
  unfold enc zi
  rw [List.map_map]; rfl
theorem tot_di (a b : Nat) : ∃ r, ordV .Lt (di a) (di b) = some r := ⟨_, rfl⟩
theorem tot_enc (a b : List Nat) : ∃ r, ordV .Lt (enc a) (enc b) = some r := by
  rw [enc_map, enc_map]
  exact totS tot_di a b
theorem re_di (a : Nat) : PyData.eqv (di a) (di a) = true := by
  show PyData.eqv (.int a) (.int a) = true
  rw [eqv_int]; simp
theorem re_enc (a : List Nat) : PyData.eqv (enc a) (enc a) = true := by
  unfold enc
  rw [eqv_tints]; simp
theorem lt_di (a b : Nat) (h : a < b) : ordV .Lt (di b) (di a) = some false ∧ PyData.eqv (di b) (di a) = false := by
  constructor
  · show some (decide ((b : Int) < (a : Int))) = _
    congr 1
    simp; omega
  · show PyData.eqv (.int b) (.int a) = false
    rw [eqv_int]; simp; omega
theorem lt_enc (a b : List Nat) (h : lt1 a b) : ordV .Lt (enc b) (enc a) = some false ∧ PyData.eqv (enc b) (enc a) = false := by
  rw [enc_map, enc_map]
  have z := lxO tot_di re_di lt_di (totS tot_di) h
  exact ⟨z.1, by rw [PyData.eqv]; exact z.2⟩
theorem lt_encs (a b : List (List Nat)) (h : lt2 a b) : ordV .Lt (encs b) (encs a) = some false :=
  (lxO tot_enc re_enc lt_enc (totS tot_enc) h).1
/-! ### shapes -/
theorem lay_enc (r : List Nat) : (enc r).canLay0 = true := by unfold enc; rw [PyData.canLay0]; exact lay_ints _
theorem dep_enc (r : List Nat) : (enc r).depth = 1 := by unfold enc; rw [PyData.depth, dep_ints]
theorem lay_map {α : Type} {f : α → Dt} (h : ∀ a, (f a).canLay0 = true) : ∀ l : List α, PyData.canLayAll0 (l.map f) = true
  | [] => rfl
  | a :: l => by rw [List.map_cons, PyData.canLayAll0, h a, lay_map h l]; rfl
theorem dep_map {α : Type} {f : α → Dt} {k : Nat} (h : ∀ a, (f a).depth ≤ k) : ∀ l : List α, PyData.depthAll (l.map f) ≤ k
  | [] => Nat.zero_le _
  | a :: l => by
    rw [List.map_cons, PyData.depthAll]
    have h1 := h a
    have h2 := dep_map h l
    omega
theorem lay_encs (rs : List (List Nat)) : (encs rs).canLay0 = true := by unfold encs; rw [PyData.canLay0]; exact lay_map lay_enc _
theorem dep_encs (rs : List (List Nat)) : (encs rs).depth ≤ 2 := by
  unfold encs; rw [PyData.depth]
  have := dep_map (f := enc) (k := 1) (fun r => by rw [dep_enc]; omega) rs
  omega
theorem shp {d : Dt} (h1 : d.canLay0 = true) (h2 : d.depth ≤ 64) : SeqAt.shaped d = true := by
  unfold SeqAt.shaped
  rw [h1]; simp [h2]
theorem shp_enc (r : List Nat) : SeqAt.shaped (enc r) = true := shp (lay_enc r) (by rw [dep_enc]; omega)
theorem shp_encs (r : List (List Nat)) : SeqAt.shaped (encs r) = true := shp (lay_encs r) (by have := dep_encs r; omega)
theorem eq_self {d : Dt} (h : SeqAt.shaped d = true) : opC .Eq d d = some true := by
  have e : opC .Eq d d = eqD d d := rfl
  rw [e]
  unfold eqD
  rw [if_pos ⟨h, h⟩, SeqAt.eqv_refl d (SeqAt.canLay_of_shaped h)]
theorem ne_self {d : Dt} (h : SeqAt.shaped d = true) : opC .NotEq d d = some false := by
  have e : opC .NotEq d d = (eqD d d).map (!·) := rfl
  rw [e]
  unfold eqD
  rw [if_pos ⟨h, h⟩, SeqAt.eqv_refl d (SeqAt.canLay_of_shaped h)]
  rfl
theorem best_first : ∀ {l : List (List (List Nat))} {x : List (List Nat)}, (∀ y ∈ l, lt2 x y) → bestD .Lt (encs x) (l.map encs) = some (encs x)
  | [], x, _ => rfl
  | y :: l, x, h => by
    rw [List.map_cons, bestD]
    unfold ordD
    rw [if_pos ⟨shp_encs y, shp_encs x⟩, lt_encs x y (h y List.mem_cons_self)]
    exact best_first fun z hz => h z (List.mem_cons_of_mem _ hz)
theorem min_ons {n : Nat} {rows : List (List Nat)} (R : Rect n rows) (h : rows.length ≤ n) : apB1 .min (.list ((ons n rows (n - rows.length)).map encs)) = some (encs (sqr n rows)) := by
  obtain ⟨t, e⟩ := ons_hd R (k := n - rows.length) (by omega)
  have p := ons_asc (n := n) (rows := rows) (n - rows.length)
  rw [e] at p ⊢
  rw [List.map_cons]
  show (if PyData.canLayAll0 (encs _ :: t.map encs) = true then bestD .Lt (encs _) (t.map encs) else none) = _
  rw [← List.map_cons, if_pos (lay_map lay_encs _)]
  exact best_first (List.pairwise_cons.mp p).1
end VL


set_option Elab.async false
set_option linter.all false
set_option maxRecDepth 100000
namespace VL
open PySem PL
/-! ### columns -/
theorem itm_met {c : Nat} {rows : List (List Nat)} (h : ∀ r ∈ rows, c < r.length) : (rows.map enc).map (itm c) = (met rows c).map di := by
  rw [itm_rows h]
  unfold zi
  rw [List.map_map]; rfl
theorem colq_met {c : Nat} {rows : List (List Nat)} (h : ∀ r ∈ rows, c < r.length) : colq (rows.map enc) (di c) = decide (met rows c).Nodup := by
  obtain ⟨K, h1, h2, h3, h4⟩ := keys_of (f := itm c) (ks := met rows c) (K := []) (l := []) (v := .bool true) (xs := rows.map enc) (itm_met h) rfl List.nodup_nil
  have hl : (colK c (rows.map enc)).length = K.length := by
    have := congrArg List.length h1
    simpa [colK] using this
  show decide (((colK (c : Int).toNat (rows.map enc)).length : Int) = ((rows.map enc).length : Int)) = _
  rw [Int.toNat_natCast, hl]
  have hm : (met rows c).length = rows.length := by simp [met]
  rw [List.nil_append, List.length_nil, Nat.zero_add, hm] at h4
  rw [List.length_map]
  by_cases nd : (met rows c).Nodup
  · have := h4.mpr nd
    simp [nd, this]
  · have : ¬ K.length = rows.length := fun z => nd (h4.mp z)
    simp [nd]; omega
theorem cols_rect {n : Nat} {rows : List (List Nat)} (R : Rect n rows) : colsB n (rows.map enc) = true := by
  unfold colsB
  rw [List.all_eq_true]
  intro x hx
  obtain ⟨c, hc, rfl⟩ := List.mem_map.mp hx
  have hc := List.mem_range.mp hc
  rw [colq_met fun r hr => by rw [R.len r hr]; exact hc]
  simpa using R.col c hc
theorem all_rect {n : Nat} {rows : List (List Nat)} (R : Rect n rows) : (rows.map enc).all (areAll n) = true := by
  rw [List.all_eq_true]
  intro x hx
  obtain ⟨r, hr, rfl⟩ := List.mem_map.mp hx
  exact areAll_row (R.len r hr) (R.inj r hr) (rect_lt R hr)
end VL


set_option Elab.async false
set_option linter.all false
set_option maxRecDepth 100000
namespace VL
open PySem PL
/-! ### latin squares -/
def Lat (n : Nat) (rows : List (List Nat)) : Prop := Rect n rows ∧ rows.length = n
def cell (rows : List (List Nat)) (r c : Nat) : Nat := (rows.getD r []).getD c 0
theorem getD_mem {rows : List (List Nat)} {r : Nat} (h : r < rows.length) : rows.getD r [] ∈ rows := by
  rw [List.getD_eq_getElem?_getD, List.getElem?_eq_getElem h]
  exact List.getElem_mem h
theorem met_get {rows : List (List Nat)} {r c : Nat} (h : r < rows.length) : (met rows c)[r]? = some (cell rows r c) := by
  unfold met cell
  rw [List.getElem?_map, List.getD_eq_getElem?_getD (l := rows), List.getElem?_eq_getElem h]
  rfl
theorem nodup_get {l : List Nat} (nd : l.Nodup) {i j a : Nat} (h1 : l[i]? = some a) (h2 : l[j]? = some a) : i = j := by
  obtain ⟨p, e1⟩ := List.getElem?_eq_some_iff.mp h1
  obtain ⟨q, e2⟩ := List.getElem?_eq_some_iff.mp h2
  rcases Nat.lt_trichotomy i j with z | z | z
  · exact absurd (e1.trans e2.symm) (List.pairwise_iff_getElem.mp nd i j p q z)
  · exact z
  · exact absurd (e2.trans e1.symm) (List.pairwise_iff_getElem.mp nd j i q p z)
section
variable {n : Nat} {rows : List (List Nat)}
theorem lat_row (L : Lat n rows) {r : Nat} (hr : r < n) : rows.getD r [] ∈ rows := getD_mem (by rw [L.2]; exact hr)
theorem lat_lt (L : Lat n rows) {r c : Nat} (hr : r < n) (hc : c < n) : cell rows r c < n := L.1.lt _ (lat_row L hr) c hc
theorem lat_rget (L : Lat n rows) {r c : Nat} (hr : r < n) (hc : c < n) : (rows.getD r [])[c]? = some (cell rows r c) := by
  have h := L.1.len _ (lat_row L hr)
  unfold cell
  rw [List.getD_eq_getElem?_getD (l := rows.getD r []), List.getElem?_eq_getElem (by omega)]
  rfl
theorem lat_col (L : Lat n rows) {r c s : Nat} (hr : r < n) (hc : c < n) (hs : s < n) (h : cell rows r c = cell rows r s) : c = s :=
  nodup_get (L.1.inj _ (lat_row L hr)) (lat_rget L hr hc) (by rw [lat_rget L hr hs, h])
theorem lat_row_inj (L : Lat n rows) {r t c : Nat} (hr : r < n) (ht : t < n) (hc : c < n) (h : cell rows r c = cell rows t c) : r = t :=
  nodup_get (L.1.col c hc) (met_get (by rw [L.2]; exact hr)) (by rw [met_get (by rw [L.2]; exact ht), h])
theorem lat_exc (L : Lat n rows) {r s : Nat} (hr : r < n) (hs : s < n) : ∃ c, c < n ∧ cell rows r c = s := by
  have hm := L.1.len _ (lat_row L hr)
  have h := all_in (L.1.inj _ (lat_row L hr)) hm (rect_lt L.1 (lat_row L hr)) hs
  obtain ⟨c, hc, e⟩ := List.getElem_of_mem h
  refine ⟨c, by omega, ?_⟩
  have := lat_rget L hr (show c < n by omega)
  rw [List.getElem?_eq_getElem hc] at this
  rw [← e]; exact (Option.some.inj this).symm
theorem lat_exr (L : Lat n rows) {c s : Nat} (hc : c < n) (hs : s < n) : ∃ r, r < n ∧ cell rows r c = s := by
  have hl : (met rows c).length = n := by simp [met, L.2]
  have h := all_in (L.1.col c hc) hl (rect_cols L.1 hc).2 hs
  obtain ⟨r, hr, e⟩ := List.getElem_of_mem h
  have hr' : r < rows.length := by rw [L.2]; omega
  refine ⟨r, by omega, ?_⟩
  have := met_get (rows := rows) (c := c) hr'
  rw [List.getElem?_eq_getElem hr] at this
  rw [← e]; exact (Option.some.inj this).symm
end
/-- rows by a function -/
def mk (n : Nat) (f : Nat → Nat → Nat) : List (List Nat) := (List.range n).map fun r => (List.range n).map fun c => f r c
theorem mk_len (n : Nat) (f : Nat → Nat → Nat) : (mk n f).length = n := by simp [mk]
theorem mk_getD {n : Nat} {f : Nat → Nat → Nat} {r : Nat} (hr : r < n) : (mk n f).getD r [] = (List.range n).map fun c => f r c := by
  unfold mk
  rw [List.getD_eq_getElem?_getD, List.getElem?_map, List.getElem?_range hr]
  rfl
theorem mk_cell {n : Nat} {f : Nat → Nat → Nat} {r c : Nat} (hr : r < n) (hc : c < n) : cell (mk n f) r c = f r c := by
  unfold cell
  rw [mk_getD hr, List.getD_eq_getElem?_getD, List.getElem?_map, List.getElem?_range hc]
  rfl
theorem mk_row {n : Nat} {f : Nat → Nat → Nat} {x : List Nat} (h : x ∈ mk n f) : ∃ r, r < n ∧ x = (List.range n).map fun c => f r c := by
  obtain ⟨r, hr, rfl⟩ := List.mem_map.mp h
  exact ⟨r, List.mem_range.mp hr, rfl⟩
theorem nodup_map {n : Nat} {f : Nat → Nat} (h : ∀ i j, i < n → j < n → f i = f j → i = j) : ((List.range n).map f).Nodup := by
  refine List.pairwise_map.mpr (List.Pairwise.imp_of_mem (fun {a b} ha hb lt e => ?_) (List.pairwise_lt_range (n := n)))
  have := h a b (List.mem_range.mp ha) (List.mem_range.mp hb) e
  omega
/-- what makes a latin square -/
theorem mk_lat {n : Nat} {f : Nat → Nat → Nat} (h0 : ∀ r c, r < n → c < n → f r c < n) (h1 : ∀ r c d, r < n → c < n → d < n → f r c = f r d → c = d) (h2 : ∀ r t c, r < n → t < n → c < n → f r c = f t c → r = t) : Lat n (mk n f) := by
  refine ⟨⟨fun x hx => ?_, fun x hx c hc => ?_, fun x hx => ?_, fun c hc => ?_⟩, mk_len n f⟩
  · obtain ⟨r, hr, rfl⟩ := mk_row hx; simp
  · obtain ⟨r, hr, rfl⟩ := mk_row hx
    rw [List.getD_eq_getElem?_getD, List.getElem?_map, List.getElem?_range hc]
    exact h0 r c hr hc
  · obtain ⟨r, hr, rfl⟩ := mk_row hx
    exact nodup_map fun i j hi hj e => h1 r i j hr hi hj e
  · have e : met (mk n f) c = (List.range n).map fun r => f r c := by
      unfold met mk
      rw [List.map_map]
      refine List.map_congr_left fun r hr => ?_
      show ((List.range n).map fun c => f r c).getD c 0 = _
      rw [List.getD_eq_getElem?_getD, List.getElem?_map, List.getElem?_range hc]
      rfl
    rw [e]
    exact nodup_map fun i j hi hj e => h2 i j c hi hj hc e
/-- a square is told by its cells -/
theorem mk_of {n : Nat} {rows : List (List Nat)} (hl : rows.length = n) (hr : ∀ r ∈ rows, r.length = n) : rows = mk n (cell rows) := by
  apply List.ext_getElem
  · rw [mk_len]; exact hl
  · intro r h1 h2
    have hrn : r < n := by omega
    have e : (mk n (cell rows))[r] = (mk n (cell rows)).getD r [] := by rw [List.getD_eq_getElem?_getD, List.getElem?_eq_getElem h2]; rfl
    rw [e, mk_getD hrn]
    have hlr := hr _ (List.getElem_mem h1)
    apply List.ext_getElem
    · simp [hlr]
    · intro c h3 h4
      simp only [List.getElem_map, List.getElem_range]
      unfold cell
      rw [List.getD_eq_getElem?_getD (l := rows), List.getElem?_eq_getElem h1]
      show _ = (rows[r]).getD c 0
      rw [List.getD_eq_getElem?_getD, List.getElem?_eq_getElem h3]
      rfl
theorem mk_congr {n : Nat} {f g : Nat → Nat → Nat} (h : ∀ r c, r < n → c < n → f r c = g r c) : mk n f = mk n g := by
  unfold mk
  exact List.map_congr_left fun r hr => List.map_congr_left fun c hc => h r c (List.mem_range.mp hr) (List.mem_range.mp hc)
/-! ### faces -/
def pick (t f : List Nat) : List Nat := f.map fun i => t.getD i 0
def faces : List (List Nat) := [[0, 1, 2], [0, 2, 1], [1, 0, 2], [1, 2, 0], [2, 0, 1], [2, 1, 0]]
def inv (f : List Nat) : List Nat := (List.range 3).map fun i => f.findIdx (· == i)
theorem pick_inv (f : List Nat) (hf : f ∈ faces) (a b c : Nat) : pick (pick [a, b, c] f) (inv f) = [a, b, c] := by
  simp only [faces, List.mem_cons, List.not_mem_nil, or_false] at hf
  rcases hf with rfl | rfl | rfl | rfl | rfl | rfl <;> rfl
theorem inv_pick (f : List Nat) (hf : f ∈ faces) (a b c : Nat) : pick (pick [a, b, c] (inv f)) f = [a, b, c] := by
  simp only [faces, List.mem_cons, List.not_mem_nil, or_false] at hf
  rcases hf with rfl | rfl | rfl | rfl | rfl | rfl <;> rfl
/-- the square's triple -/
def has (n : Nat) (rows : List (List Nat)) (t : List Nat) : Prop := ∃ r c, r < n ∧ c < n ∧ t = [r, c, cell rows r c]
theorem has_iff {n : Nat} {rows : List (List Nat)} {a b c : Nat} : has n rows [a, b, c] ↔ (a < n ∧ b < n ∧ c = cell rows a b) := by
  constructor
  · rintro ⟨r, d, h1, h2, e⟩
    simp only [List.cons.injEq, and_true] at e
    obtain ⟨rfl, rfl, rfl⟩ := e
    exact ⟨h1, h2, rfl⟩
  · rintro ⟨h1, h2, rfl⟩
    exact ⟨a, b, h1, h2, rfl⟩
/-- for each two coordinates there is one third -/
theorem face_ex {n : Nat} {rows : List (List Nat)} (L : Lat n rows) {f : List Nat} (hf : f ∈ faces) {r c : Nat} (hr : r < n) (hc : c < n) : ∃ s, s < n ∧ has n rows (pick [r, c, s] (inv f)) ∧ ∀ s', has n rows (pick [r, c, s'] (inv f)) → s' = s := by
  simp only [faces, List.mem_cons, List.not_mem_nil, or_false] at hf
  rcases hf with rfl | rfl | rfl | rfl | rfl | rfl
  · refine ⟨cell rows r c, lat_lt L hr hc, has_iff.mpr ⟨hr, hc, rfl⟩, fun s' h => (has_iff.mp h).2.2⟩
  · obtain ⟨s, hs, e⟩ := lat_exc L hr hc
    refine ⟨s, hs, has_iff.mpr ⟨hr, hs, e.symm⟩, fun s' h => ?_⟩
    obtain ⟨h1, h2, h3⟩ := has_iff.mp (show has n rows [r, s', c] from h)
    exact lat_col L hr h2 hs (h3.symm.trans e.symm)
  · refine ⟨cell rows c r, lat_lt L hc hr, has_iff.mpr ⟨hc, hr, rfl⟩, fun s' h => (has_iff.mp (show has n rows [c, r, s'] from h)).2.2⟩
  · -- [1,2,0]: row c', column ..
    obtain ⟨s, hs, e⟩ := lat_exr L hr hc
    refine ⟨s, hs, has_iff.mpr ⟨hs, hr, e.symm⟩, fun s' h => ?_⟩
    obtain ⟨h1, h2, h3⟩ := has_iff.mp (show has n rows [s', r, c] from h)
    exact lat_row_inj L h1 hs hr (h3.symm.trans e.symm)
  · obtain ⟨s, hs, e⟩ := lat_exc L hc hr
    refine ⟨s, hs, has_iff.mpr ⟨hc, hs, e.symm⟩, fun s' h => ?_⟩
    obtain ⟨h1, h2, h3⟩ := has_iff.mp (show has n rows [c, s', r] from h)
    exact lat_col L hc h2 hs (h3.symm.trans e.symm)
  · obtain ⟨s, hs, e⟩ := lat_exr L hc hr
    refine ⟨s, hs, has_iff.mpr ⟨hs, hc, e.symm⟩, fun s' h => ?_⟩
    obtain ⟨h1, h2, h3⟩ := has_iff.mp (show has n rows [s', c, r] from h)
    exact lat_row_inj L h1 hs hc (h3.symm.trans e.symm)
noncomputable def third (n : Nat) (rows : List (List Nat)) (f : List Nat) (r c : Nat) : Nat := Classical.epsilon fun s => has n rows (pick [r, c, s] (inv f))
noncomputable def turn (n : Nat) (rows : List (List Nat)) (f : List Nat) : List (List Nat) := mk n (third n rows f)
theorem third_iff {n : Nat} {rows : List (List Nat)} (L : Lat n rows) {f : List Nat} (hf : f ∈ faces) {r c s : Nat} (hr : r < n) (hc : c < n) : has n rows (pick [r, c, s] (inv f)) ↔ s = third n rows f r c := by
  obtain ⟨s0, h0, h1, h2⟩ := face_ex L hf hr hc
  have ex : ∃ s, has n rows (pick [r, c, s] (inv f)) := ⟨s0, h1⟩
  have e : third n rows f r c = s0 := h2 _ (Classical.epsilon_spec ex)
  rw [e]
  exact ⟨h2 s, fun z => by rw [z]; exact h1⟩
theorem third_lt {n : Nat} {rows : List (List Nat)} (L : Lat n rows) {f : List Nat} (hf : f ∈ faces) {r c : Nat} (hr : r < n) (hc : c < n) : third n rows f r c < n := by
  obtain ⟨s0, h0, h1, h2⟩ := face_ex L hf hr hc
  rw [← (third_iff L hf hr hc).mp h1]
  exact h0
theorem has_turn {n : Nat} {rows : List (List Nat)} (L : Lat n rows) {f : List Nat} (hf : f ∈ faces) {r c s : Nat} (hr : r < n) (hc : c < n) : has n (turn n rows f) [r, c, s] ↔ has n rows (pick [r, c, s] (inv f)) := by
  rw [has_iff, third_iff L hf hr hc]
  unfold turn
  rw [mk_cell hr hc]
  exact ⟨fun h => h.2.2, fun h => ⟨hr, hc, h⟩⟩
theorem has_lt {n : Nat} {rows : List (List Nat)} (L : Lat n rows) {a b c : Nat} (h : has n rows [a, b, c]) : a < n ∧ b < n ∧ c < n := by
  obtain ⟨h1, h2, rfl⟩ := has_iff.mp h
  exact ⟨h1, h2, lat_lt L h1 h2⟩
theorem pick_lt {n : Nat} {rows : List (List Nat)} (L : Lat n rows) {f : List Nat} (hf : f ∈ faces) {a b c : Nat} (h : has n rows (pick [a, b, c] f)) : a < n ∧ b < n ∧ c < n := by
  simp only [faces, List.mem_cons, List.not_mem_nil, or_false] at hf
  rcases hf with rfl | rfl | rfl | rfl | rfl | rfl
  · exact has_lt L h
  · have z := has_lt (a := a) (b := c) (c := b) L h; exact ⟨z.1, z.2.2, z.2.1⟩
  · have z := has_lt (a := b) (b := a) (c := c) L h; exact ⟨z.2.1, z.1, z.2.2⟩
  · have z := has_lt (a := b) (b := c) (c := a) L h; exact ⟨z.2.2, z.1, z.2.1⟩
  · have z := has_lt (a := c) (b := a) (c := b) L h; exact ⟨z.2.1, z.2.2, z.1⟩
  · have z := has_lt (a := c) (b := b) (c := a) L h; exact ⟨z.2.2, z.2.1, z.1⟩
theorem inv_face {f : List Nat} (hf : f ∈ faces) : inv f ∈ faces := by
  simp only [faces, List.mem_cons, List.not_mem_nil, or_false] at hf
  rcases hf with rfl | rfl | rfl | rfl | rfl | rfl <;> decide
theorem turn_lat {n : Nat} {rows : List (List Nat)} (L : Lat n rows) {f : List Nat} (hf : f ∈ faces) : Lat n (turn n rows f) := by
  have T : ∀ {r c}, r < n → c < n → has n rows (pick [r, c, third n rows f r c] (inv f)) := fun hr hc => (third_iff L hf hr hc).mpr rfl
  refine mk_lat (fun r c hr hc => third_lt L hf hr hc) (fun r c d hr hc hd e => ?_) (fun r t c hr ht hc e => ?_)
  · have h1 := T hr hc
    have h2 := T hr hd
    rw [← e] at h2
    generalize third n rows f r c = s at h1 h2
    simp only [faces, List.mem_cons, List.not_mem_nil, or_false] at hf
    rcases hf with rfl | rfl | rfl | rfl | rfl | rfl
    · have a := has_iff.mp (show has n rows [r, c, s] from h1); have b := has_iff.mp (show has n rows [r, d, s] from h2)
      exact lat_col L hr hc hd (a.2.2.symm.trans b.2.2)
    · have a := has_iff.mp (show has n rows [r, s, c] from h1); have b := has_iff.mp (show has n rows [r, s, d] from h2)
      exact a.2.2.trans b.2.2.symm
    · have a := has_iff.mp (show has n rows [c, r, s] from h1); have b := has_iff.mp (show has n rows [d, r, s] from h2)
      exact lat_row_inj L hc hd hr (a.2.2.symm.trans b.2.2)
    · have a := has_iff.mp (show has n rows [s, r, c] from h1); have b := has_iff.mp (show has n rows [s, r, d] from h2)
      exact a.2.2.trans b.2.2.symm
    · have a := has_iff.mp (show has n rows [c, s, r] from h1); have b := has_iff.mp (show has n rows [d, s, r] from h2)
      exact lat_row_inj L hc hd a.2.1 (a.2.2.symm.trans b.2.2)
    · have a := has_iff.mp (show has n rows [s, c, r] from h1); have b := has_iff.mp (show has n rows [s, d, r] from h2)
      exact lat_col L a.1 hc hd (a.2.2.symm.trans b.2.2)
  · have h1 := T hr hc
    have h2 := T ht hc
    rw [← e] at h2
    generalize third n rows f r c = s at h1 h2
    simp only [faces, List.mem_cons, List.not_mem_nil, or_false] at hf
    rcases hf with rfl | rfl | rfl | rfl | rfl | rfl
    · have a := has_iff.mp (show has n rows [r, c, s] from h1); have b := has_iff.mp (show has n rows [t, c, s] from h2)
      exact lat_row_inj L hr ht hc (a.2.2.symm.trans b.2.2)
    · have a := has_iff.mp (show has n rows [r, s, c] from h1); have b := has_iff.mp (show has n rows [t, s, c] from h2)
      exact lat_row_inj L hr ht a.2.1 (a.2.2.symm.trans b.2.2)
    · have a := has_iff.mp (show has n rows [c, r, s] from h1); have b := has_iff.mp (show has n rows [c, t, s] from h2)
      exact lat_col L hc hr ht (a.2.2.symm.trans b.2.2)
    · have a := has_iff.mp (show has n rows [s, r, c] from h1); have b := has_iff.mp (show has n rows [s, t, c] from h2)
      exact lat_col L a.1 hr ht (a.2.2.symm.trans b.2.2)
    · have a := has_iff.mp (show has n rows [c, s, r] from h1); have b := has_iff.mp (show has n rows [c, s, t] from h2)
      exact a.2.2.trans b.2.2.symm
    · have a := has_iff.mp (show has n rows [s, c, r] from h1); have b := has_iff.mp (show has n rows [s, c, t] from h2)
      exact a.2.2.trans b.2.2.symm
/-- squares with the same triples are the same -/
theorem lat_ext {n : Nat} {a b : List (List Nat)} (A : Lat n a) (B : Lat n b) (h : ∀ r c s, r < n → c < n → (has n a [r, c, s] ↔ has n b [r, c, s])) : a = b := by
  rw [mk_of A.2 A.1.len, mk_of B.2 B.1.len]
  refine mk_congr fun r c hr hc => ?_
  exact (has_iff.mp ((h r c (cell a r c) hr hc).mp (has_iff.mpr ⟨hr, hc, rfl⟩))).2.2
theorem turn_turn {n : Nat} {rows : List (List Nat)} (L : Lat n rows) {f g : List Nat} (hf : f ∈ faces) (hg : g ∈ faces) : turn n (turn n rows f) g = turn n rows (pick f g) ∧ pick f g ∈ faces := by
  have hp : pick f g ∈ faces := by
    simp only [faces, List.mem_cons, List.not_mem_nil, or_false] at hf hg
    rcases hf with rfl | rfl | rfl | rfl | rfl | rfl <;> rcases hg with rfl | rfl | rfl | rfl | rfl | rfl <;> decide
  have L1 := turn_lat L hf
  refine ⟨lat_ext (turn_lat L1 hg) (turn_lat L hp) fun r c s hr hc => ?_, hp⟩
  rw [has_turn L1 hg hr hc, has_turn L hp hr hc]
  have e : ∀ a b d : Nat, pick (pick [a, b, d] (inv g)) (inv f) = pick [a, b, d] (inv (pick f g)) := by
    intro a b d
    simp only [faces, List.mem_cons, List.not_mem_nil, or_false] at hf hg
    rcases hf with rfl | rfl | rfl | rfl | rfl | rfl <;> rcases hg with rfl | rfl | rfl | rfl | rfl | rfl <;> rfl
  have key : ∀ a b d : Nat, has n (turn n rows f) [a, b, d] ↔ has n rows (pick [a, b, d] (inv f)) := fun a b d => by
    by_cases hab : a < n ∧ b < n
    · exact has_turn L hf hab.1 hab.2
    · constructor
      · intro h; exact absurd ⟨(has_iff.mp h).1, (has_iff.mp h).2.1⟩ hab
      · intro h; have z := pick_lt L (inv_face hf) h; exact absurd ⟨z.1, z.2.1⟩ hab
  rw [← e]
  obtain ⟨x, y, z, w⟩ : ∃ x y z, pick [r, c, s] (inv g) = [x, y, z] := ⟨_, _, _, rfl⟩
  rw [w]
  exact key x y z
theorem turn_id {n : Nat} {rows : List (List Nat)} (L : Lat n rows) : turn n rows [0, 1, 2] = rows :=
  lat_ext (turn_lat L (by decide)) L fun r c s hr hc => has_turn L (by decide) hr hc
end VL


set_option Elab.async false
set_option linter.all false
set_option maxRecDepth 100000
namespace VL
open PySem PL
theorem enum_enc (r : List Nat) : enumD (enc r) = some ((List.range r.length).map fun c => .tuple [di c, di (r.getD c 0)]) := by
  show some ((((zi r).map PyData.int)).mapIdx fun i x => PyData.tuple [.int (i : Nat), x]) = _
  congr 1
  apply List.ext_getElem
  · simp [zi]
  · intro i h1 h2
    have hi : i < r.length := by simpa [zi] using h1
    simp [zi, di, List.getElem?_eq_getElem hi]
theorem enum_encs (rs : List (List Nat)) : enumD (encs rs) = some ((List.range rs.length).map fun i => .tuple [di i, enc (rs.getD i [])]) := by
  show some ((rs.map enc).mapIdx fun i x => PyData.tuple [.int (i : Nat), x]) = _
  congr 1
  apply List.ext_getElem
  · simp
  · intro i h1 h2
    have hi : i < rs.length := by simpa using h1
    simp [di, List.getElem?_eq_getElem hi]
/-- the cells of a row, of rows -/
def rowC (r : Nat) (row : List Nat) : List (List Nat) := (List.range row.length).map fun c => [r, c, row.getD c 0]
def cellsC (rows : List (List Nat)) : List (List Nat) := (List.range rows.length).flatMap fun r => rowC r (rows.getD r [])
theorem cellsC_take (rows : List (List Nat)) (k : Nat) : (List.range (k + 1)).flatMap (fun r => rowC r (rows.getD r [])) = (List.range k).flatMap (fun r => rowC r (rows.getD r [])) ++ rowC k (rows.getD k []) := by
  rw [List.range_succ, List.flatMap_append]
  simp
theorem rowC_len (r : Nat) (row : List Nat) : (rowC r row).length = row.length := by simp [rowC]
theorem cellsC_len {rows : List (List Nat)} {n : Nat} (hr : ∀ r, (rows.getD r []).length ≤ n) (k : Nat) : ((List.range k).flatMap fun r => rowC r (rows.getD r [])).length ≤ k * n := by
  have := flat_len (f := fun r => rowC r (rows.getD r [])) (n := n) (l := List.range k) fun r _ => by rw [rowC_len]; exact hr r
  simpa using this
theorem three_sz : 3 ≤ sizeLine := le_sz (by omega)
theorem v_all_cells_1 {row : List Nat} {r : Nat} {x0 x1 x4 x5 : Dt} (hz : row.length ≤ 1000) : ev T_all_cells b_all_cells_1 [x0, x1, di r, enc row, x4, x5] = .ok (.list ((rowC r row).map enc), [x0, x1, di r, enc row, x4, x5]) := by
  unfold b_all_cells_1
  rw [lcG0 (fun x => match x with | .tuple [a, b] => .tuple [di r, a, b] | _ => .none) (ps2 4 5) (xs := (List.range row.length).map fun c => .tuple [di c, di (row.getD c 0)]) (by simp [enum_enc]) (by rw [List.length_map, List.length_range]; exact le_sz (by omega)) (fun x hx e' => by
      obtain ⟨c, _, rfl⟩ := List.mem_map.mp hx; exact bnd2) (fun x hx => ps2_fst x) fun x hx => ?_]
  · congr 3
    rw [List.map_map]
    unfold rowC
    rw [List.map_map]
    exact List.map_congr_left fun c _ => by simp [enc_map]
  · obtain ⟨c, _, rfl⟩ := List.mem_map.mp hx
    simp [three_sz]
theorem v_all_cells {rows : List (List Nat)} (hl : rows.length ≤ 6) (hr : ∀ r, (rows.getD r []).length ≤ 6) : Gv F_all_cells [encs rows] (.list ((cellsC rows).map enc)) := by
  obtain ⟨e', h1, x2, x3, x4, x5, rfl⟩ := for_all (f := fun x e => exs T_all_cells b_all_cells_2 (sets (ps2 2 3 x) e)) (xs := (List.range rows.length).map fun i => .tuple [di i, enc (rows.getD i [])]) (e := [encs rows, .list [], .none, .none, .none, .none])
    (fun k e => ∃ x2 x3 x4 x5, e = [encs rows, .list (((List.range k).flatMap fun r => rowC r (rows.getD r [])).map enc), x2, x3, x4, x5]) ⟨_, _, _, _, rfl⟩ fun k x e hx hi => by
      obtain ⟨x2, x3, x4, x5, rfl⟩ := hi
      obtain ⟨hk, rfl⟩ : k < rows.length ∧ x = .tuple [di k, enc (rows.getD k [])] := by
        obtain ⟨z1, z2⟩ := List.getElem?_eq_some_iff.mp hx
        exact ⟨by simpa using z1, by simpa using z2.symm⟩
      have b1 := cellsC_len hr k
      have b2 := Nat.mul_le_mul_right 6 (Nat.le_of_lt hk)
      have hu := updAt_ext (((List.range k).flatMap fun r => rowC r (rows.getD r [])).map enc) ((rowC k (rows.getD k [])).map enc) (by simp only [List.length_map, rowC_len]; have := hr k; omega)
      refine ⟨[encs rows, .list (((List.range (k + 1)).flatMap fun r => rowC r (rows.getD r [])).map enc), di k, enc (rows.getD k []), x4, x5], ?_, _, _, _, _, rfl⟩
      rw [cellsC_take, List.map_append]
      simp only [ps2_t, sets_cons, sets_nil, List.set_cons_succ, List.set_cons_zero, b_all_cells_2, exs_cons, ex_exp, ev_mut, pth_nm, rb_ok, evs_cons, evs_nil, v_all_cells_1 (row := rows.getD k []) (r := k) (by have := hr k; omega), List.getD_cons_succ, List.getD_cons_zero, hu, exs_nil]
  rw [List.length_map, List.length_range] at h1
  refine run_gv rfl (e' := [encs rows, .list ((cellsC rows).map enc), x2, x3, x4, x5]) ?_
  have z0 : 0 ≤ sizeLine := Nat.zero_le _
  simp only [b_all_cells, exs_cons, ex_set, ev_lst, evs_nil, rb_ok, List.length_nil, z0, if_true, mo_some, ex_for_tp, itr_enu, ev_var, List.cons_append, List.nil_append, List.replicate, List.set_cons_succ, List.set_cons_zero, List.getD_cons_zero, enum_encs]
  rw [for_tp2 fun x hx => by obtain ⟨i, _, rfl⟩ := List.mem_map.mp hx; exact ⟨_, _, rfl⟩]
  simp only [List.replicate, List.cons_append, List.nil_append, h1, rb_ok, ex_frz, exs_nil, exs_cons, ex_ret, ev_var, List.getD_cons_succ, List.getD_cons_zero, mp_at, List.set_cons_succ, List.set_cons_zero, h1]
  simp [h1, cellsC]
end VL


set_option Elab.async false
set_option linter.all false
set_option maxRecDepth 100000
namespace VL
open PySem PL
/-! ### a dict by places -/
def key (r c : Nat) : Dt := .tuple [di r, di c]
theorem key_eqv (a b r c : Nat) : PyData.eqv (key a b) (key r c) = decide ((a, b) = (r, c)) := by
  have h : key a b = .tuple ([(a : Int), (b : Int)].map .int) := rfl
  have h2 : key r c = .tuple ([(r : Int), (c : Int)].map .int) := rfl
  rw [h, h2, eqv_tints]
  have e : ([(a : Int), (b : Int)] = [(r : Int), (c : Int)]) ↔ ((a, b) = (r, c)) := by
    simp only [List.cons.injEq, and_true, Prod.mk.injEq]
    omega
  simp only [e]
abbrev Mp := List ((Nat × Nat) × Dt)
def eM (M : Mp) : List (Dt × Dt) := M.map fun p => (key p.1.1 p.1.2, p.2)
def pM (k : Nat × Nat) (v : Dt) (M : Mp) : Mp := if (M.any fun p => decide (p.1 = k)) = true then M.map (fun p => if p.1 = k then (p.1, v) else p) else M ++ [(k, v)]
def gM (M : Mp) (k : Nat × Nat) : Option Dt := (M.find? fun p => decide (p.1 = k)).map (·.2)
theorem put_eM (a b : Nat) (v : Dt) (M : Mp) : putD (key a b) v (eM M) = eM (pM (a, b) v M) := by
  unfold putD pM eM
  have ha : ((M.map fun p => (key p.1.1 p.1.2, p.2)).any fun q => PyData.eqv q.1 (key a b)) = M.any fun p => decide (p.1 = (a, b)) := by
    rw [List.any_map]
    congr 1
    funext p
    exact key_eqv _ _ _ _
  rw [ha]
  split
  · rw [List.map_map, List.map_map]
    refine List.map_congr_left fun p _ => ?_
    simp only [Function.comp, key_eqv]
    by_cases h : p.1 = (a, b)
    · have h' : (p.1.1, p.1.2) = (a, b) := h
      simp [h', h]
    · have h' : ¬ (p.1.1, p.1.2) = (a, b) := h
      simp only [h', h, decide_false, if_false]
      simp
  · rw [List.map_append]; rfl
theorem get_eM (M : Mp) (r c : Nat) : getD_ (eM M) (key r c) = gM M (r, c) := by
  unfold getD_ eM gM
  rw [List.find?_map, Option.map_map]
  have e : ((fun q : Dt × Dt => PyData.eqv q.1 (key r c)) ∘ fun p : (Nat × Nat) × Dt => (key p.1.1 p.1.2, p.2)) = fun p => decide (p.1 = (r, c)) := by
    funext p
    exact key_eqv _ _ _ _
  rw [e]
  rfl
theorem gM_put {k k' : Nat × Nat} {v : Dt} : ∀ {M : Mp}, gM (pM k v M) k' = if k = k' then some v else gM M k' := by
  intro M
  unfold pM gM
  by_cases hk : (M.any fun p => decide (p.1 = k)) = true
  · rw [if_pos hk, List.find?_map]
    have e : ((fun p : (Nat × Nat) × Dt => decide (p.1 = k')) ∘ fun p => if p.1 = k then (p.1, v) else p) = fun p => decide (p.1 = k') := by
      funext p
      simp only [Function.comp]
      split <;> rfl
    rw [e]
    by_cases hkk : k = k'
    · subst hkk
      rw [if_pos rfl]
      obtain ⟨p, hp, hpk⟩ := List.any_eq_true.mp hk
      cases q : M.find? fun p => decide (p.1 = k) with
      | none => exact absurd hpk (by simpa using List.find?_eq_none.mp q p hp)
      | some z =>
        have hz := List.find?_some q
        simp only [decide_eq_true_eq] at hz
        simp [hz]
    · rw [if_neg hkk]
      cases q : M.find? fun p => decide (p.1 = k') with
      | none => rfl
      | some z =>
        have hz := List.find?_some q
        simp only [decide_eq_true_eq] at hz
        have : ¬ z.1 = k := fun w => hkk (w.symm.trans hz)
        simp [this]
  · rw [if_neg hk, List.find?_append]
    by_cases hkk : k = k'
    · subst hkk
      rw [if_pos rfl]
      have : (M.find? fun p => decide (p.1 = k)) = none := by
        rw [List.find?_eq_none]
        intro p hp w
        exact hk (List.any_eq_true.mpr ⟨p, hp, w⟩)
      rw [this]
      simp
    · rw [if_neg hkk]
      cases M.find? fun p => decide (p.1 = k') with
      | none => simp [hkk]
      | some z => rfl
def fM (cells : List (List Nat)) (M : Mp) : Mp := cells.foldl (fun M t => pM (t.getD 0 0, t.getD 1 0) (di (t.getD 2 0)) M) M
theorem gM_fold {r c s : Nat} : ∀ {cells : List (List Nat)} {M : Mp}, (∀ t ∈ cells, (t.getD 0 0, t.getD 1 0) = (r, c) → t.getD 2 0 = s) → ((∃ t ∈ cells, (t.getD 0 0, t.getD 1 0) = (r, c)) ∨ gM M (r, c) = some (di s)) → gM (fM cells M) (r, c) = some (di s)
  | [], M, _, h => by
    rcases h with ⟨t, ht, _⟩ | h
    · cases ht
    · exact h
  | t :: cells, M, hf, h => by
    refine gM_fold (cells := cells) (M := pM (t.getD 0 0, t.getD 1 0) (di (t.getD 2 0)) M) (fun u hu => hf u (List.mem_cons_of_mem _ hu)) ?_
    by_cases hk : (t.getD 0 0, t.getD 1 0) = (r, c)
    · right
      rw [gM_put, if_pos hk, hf t List.mem_cons_self hk]
    · rcases h with ⟨u, hu, hu2⟩ | h
      · rcases List.mem_cons.mp hu with rfl | hu
        · exact absurd hu2 hk
        · exact .inl ⟨u, hu, hu2⟩
      · right
        rw [gM_put, if_neg hk]
        exact h
/-- these cells and no others -/
def Fits (n : Nat) (f : Nat → Nat → Nat) (cells : List (List Nat)) : Prop := (∀ t ∈ cells, ∃ r c, r < n ∧ c < n ∧ t = [r, c, f r c]) ∧ ∀ r c, r < n → c < n → [r, c, f r c] ∈ cells
def kfC : Dt → Dt := fun x => match x with
  | .tuple [a, b, _] => .tuple [a, b]
  | _ => .none
def vfC : Dt → Dt := fun x => match x with
  | .tuple [_, _, s] => s
  | _ => .none
theorem foldC : ∀ {cells : List (List Nat)} {M : Mp}, (∀ t ∈ cells, ∃ a b s, t = [a, b, s]) → (cells.map enc).foldl (fun l x => putD (kfC x) (vfC x) l) (eM M) = eM (fM cells M)
  | [], M, _ => rfl
  | t :: cells, M, h => by
    obtain ⟨a, b, s, rfl⟩ := h t List.mem_cons_self
    rw [List.map_cons, List.foldl_cons]
    have e : kfC (enc [a, b, s]) = key a b ∧ vfC (enc [a, b, s]) = di s := ⟨rfl, rfl⟩
    rw [e.1, e.2, put_eM, foldC fun u hu => h u (List.mem_cons_of_mem _ hu)]
    rfl
theorem kind_eM (M : Mp) : kindB (eM M) = true := by
  unfold kindB eM
  have : (M.map fun p => (key p.1.1 p.1.2, p.2)).all (fun q => keyT q.1) = true := by
    rw [List.all_map, List.all_eq_true]
    intro p _
    rfl
  rw [this, Bool.or_true]
theorem look_eM {M : Mp} {r c : Nat} {d : Dt} (h : gM M (r, c) = some d) : subD (.dict (eM M)) (key r c) = some d := by
  show lookD (eM M) (key r c) = _
  unfold lookD
  rw [if_pos, get_eM, h]
  refine ⟨rfl, ?_⟩
  unfold eM
  rw [List.all_map, List.all_eq_true]
  intro p _
  rfl
theorem mk_enc (n : Nat) (f : Nat → Nat → Nat) : encs (mk n f) = .tuple ((List.range n).map fun r => .tuple ((List.range n).map fun c => di (f r c))) := by
  unfold encs mk
  rw [List.map_map]
  congr 1
  refine List.map_congr_left fun r _ => ?_
  show enc _ = _
  rw [enc_map, List.map_map]
  rfl
theorem v_by_cells {n : Nat} {f : Nat → Nat → Nat} {cells : List (List Nat)} (hn : n ≤ 6) (hz : cells.length ≤ 1000) (F : Fits n f cells) : Gv F_by_cells [.int n, .list (cells.map enc)] (encs (mk n f)) := by
  have sh : ∀ t ∈ cells, ∃ a b s, t = [a, b, s] := fun t ht => by obtain ⟨r, c, _, _, e⟩ := F.1 t ht; exact ⟨_, _, _, e⟩
  have two : 2 ≤ sizeLine := le_sz (by omega)
  have e1 : ∀ x2 x3 x4 x5, ev T_by_cells b_by_cells_1 [.int n, .list (cells.map enc), x2, x3, x4, x5] = .ok (.dict (eM (fM cells [])), [.int n, .list (cells.map enc), x2, x3, x4, x5]) := fun x2 x3 x4 x5 => by
    unfold b_by_cells_1
    rw [dcG kfC vfC (ps3 3 4 5) (xs := cells.map enc) (by simp) (by rw [List.length_map]; exact le_sz (by omega)) (fun x hx e' => by
      obtain ⟨t, ht, rfl⟩ := List.mem_map.mp hx
      obtain ⟨a, b, s, rfl⟩ := sh t ht
      exact bnd3) (fun x hx => ps3_fst x) (fun x hx => ?_) (by
      have := foldC (M := []) sh
      rw [show eM [] = [] from rfl] at this
      rw [this]; exact kind_eM _)]
    · have := foldC (M := []) sh
      rw [show eM [] = [] from rfl] at this
      rw [this]
    · obtain ⟨t, ht, rfl⟩ := List.mem_map.mp hx
      obtain ⟨a, b, s, rfl⟩ := sh t ht
      have e : enc [a, b, s] = .tuple [di a, di b, di s] := rfl
      rw [e]
      refine ⟨by simp [two, kfC], by simp [vfC], rfl⟩
  have lk : ∀ r c, r < n → c < n → subD (.dict (eM (fM cells []))) (.tuple [di r, di c]) = some (di (f r c)) := fun r c hr hc => look_eM (gM_fold (fun t ht e => by
    obtain ⟨a, b, _, _, rfl⟩ := F.1 t ht
    simp only [Prod.mk.injEq] at e
    obtain ⟨e1, e2⟩ := e
    have e1' : a = r := e1
    have e2' : b = c := e2
    rw [← e1', ← e2']; rfl) (.inl ⟨_, F.2 r c hr hc, rfl⟩))
  have e2 : ∀ r x4 x5, r < n → ev T_by_cells b_by_cells_2 [.int n, .list (cells.map enc), .dict (eM (fM cells [])), di r, x4, x5] = .ok (.list ((List.range n).map fun c => di (f r c)), [.int n, .list (cells.map enc), .dict (eM (fM cells [])), di r, x4, x5]) := fun r x4 x5 hr => by
    unfold b_by_cells_2
    rw [lc0 (fun x => match x with | .int c => di (f r c.toNat) | _ => .none) (xs := (List.range n).map di) (by simp [range_of (show n ≤ 1000 by omega)]) (by rw [List.length_map, List.length_range]; exact le_sz (by omega)) fun x hx => ?_]
    · rw [List.map_map]; rfl
    · obtain ⟨c, hc, rfl⟩ := List.mem_map.mp hx
      simp [two, lk r c hr (List.mem_range.mp hc)]
      simp [di]
  have e3 : ∀ x3 x4 x5, ev T_by_cells b_by_cells_3 [.int n, .list (cells.map enc), .dict (eM (fM cells [])), x3, x4, x5] = .ok (.list ((List.range n).map fun r => .tuple ((List.range n).map fun c => di (f r c))), [.int n, .list (cells.map enc), .dict (eM (fM cells [])), x3, x4, x5]) := fun x3 x4 x5 => by
    unfold b_by_cells_3
    rw [lc0 (fun x => match x with | .int r => .tuple ((List.range n).map fun c => di (f r.toNat c)) | _ => .none) (xs := (List.range n).map di) (by simp [range_of (show n ≤ 1000 by omega)]) (by rw [List.length_map, List.length_range]; exact le_sz (by omega)) fun x hx => ?_]
    · rw [List.map_map]; rfl
    · obtain ⟨r, hr, rfl⟩ := List.mem_map.mp hx
      have ht : ∀ l : List Dt, apB1 .tuple (.list l) = some (.tuple l) := fun _ => rfl
      simp [e2 r _ _ (List.mem_range.mp hr), ht]
      simp [di]
  have ht : ∀ l : List Dt, apB1 .tuple (.list l) = some (.tuple l) := fun _ => rfl
  refine run_gv rfl (e' := [.int n, .list (cells.map enc), .dict (eM (fM cells [])), .none, .none, .none]) ?_
  rw [mk_enc]
  simp [b_by_cells, List.replicate, e1, e3, ht]
end VL


set_option Elab.async false
set_option linter.all false
set_option maxRecDepth 100000
namespace VL
open PySem PL
theorem lat_getD {n : Nat} {rows : List (List Nat)} (L : Lat n rows) (hn : n ≤ 6) (r : Nat) : (rows.getD r []).length ≤ 6 := by
  by_cases h : r < rows.length
  · rw [L.1.len _ (getD_mem h)]; exact hn
  · rw [List.getD_eq_getElem?_getD, List.getElem?_eq_none (by omega)]; simp
theorem mem_cells {n : Nat} {rows : List (List Nat)} (L : Lat n rows) {t : List Nat} : t ∈ cellsC rows ↔ has n rows t := by
  unfold cellsC rowC
  rw [List.mem_flatMap]
  constructor
  · rintro ⟨r, hr, h⟩
    obtain ⟨c, hc, rfl⟩ := List.mem_map.mp h
    have hr' : r < n := by rw [← L.2]; exact List.mem_range.mp hr
    have hc' := List.mem_range.mp hc
    rw [L.1.len _ (lat_row L hr')] at hc'
    exact ⟨r, c, hr', hc', rfl⟩
  · rintro ⟨r, c, hr, hc, rfl⟩
    refine ⟨r, List.mem_range.mpr (by rw [L.2]; exact hr), List.mem_map.mpr ⟨c, List.mem_range.mpr ?_, rfl⟩⟩
    rw [L.1.len _ (lat_row L hr)]; exact hc
theorem cells_small {n : Nat} {rows : List (List Nat)} (L : Lat n rows) (hn : n ≤ 6) : (cellsC rows).length ≤ 36 := by
  have h := cellsC_len (rows := rows) (n := 6) (lat_getD L hn) rows.length
  have h2 := L.2
  unfold cellsC
  have := Nat.mul_le_mul_right 6 (show rows.length ≤ 6 by omega)
  omega
theorem fits_turn {n : Nat} {rows : List (List Nat)} (L : Lat n rows) {f : List Nat} (hf : f ∈ faces) : Fits n (third n rows f) ((cellsC rows).map fun t => pick t f) := by
  refine ⟨fun t ht => ?_, fun r c hr hc => ?_⟩
  · obtain ⟨u, hu, rfl⟩ := List.mem_map.mp ht
    have hu := (mem_cells L).mp hu
    obtain ⟨r, c, hr, hc, e⟩ := hu
    subst e
    obtain ⟨x, y, z, w⟩ : ∃ x y z, pick [r, c, cell rows r c] f = [x, y, z] := by
      simp only [faces, List.mem_cons, List.not_mem_nil, or_false] at hf
      rcases hf with rfl | rfl | rfl | rfl | rfl | rfl <;> exact ⟨_, _, _, rfl⟩
    have hh : has n rows (pick [x, y, z] (inv f)) := by rw [← w, pick_inv f hf]; exact ⟨r, c, hr, hc, rfl⟩
    have hl := pick_lt L (inv_face hf) hh
    refine ⟨x, y, hl.1, hl.2.1, ?_⟩
    rw [w, (third_iff L hf hl.1 hl.2.1).mp hh]
  · have hh : has n rows (pick [r, c, third n rows f r c] (inv f)) := (third_iff L hf hr hc).mpr rfl
    exact List.mem_map.mpr ⟨_, (mem_cells L).mpr hh, inv_pick f hf _ _ _⟩
theorem face_all {f : List Nat} (hf : f ∈ faces) : areAll 3 (enc f) = true := by
  simp only [faces, List.mem_cons, List.not_mem_nil, or_false] at hf
  rcases hf with rfl | rfl | rfl | rfl | rfl | rfl <;> exact areAll_row rfl (by decide) (by decide)
theorem face_lt {f : List Nat} (hf : f ∈ faces) : f.length = 3 ∧ ∀ i ∈ f, i < 3 := by
  simp only [faces, List.mem_cons, List.not_mem_nil, or_false] at hf
  rcases hf with rfl | rfl | rfl | rfl | rfl | rfl <;> exact ⟨rfl, by decide⟩
theorem v_check_face {d : Dt} (h : areAll 3 d = true) : Gv F_check_face [d] .none := by
  have w : ∀ e, vof F_are_all [d, .int 3] e = .ok (.bool (areAll 3 d), e) := fun e => w_are_all d 3 (by omega) e
  refine run_end rfl (e' := [d]) ?_
  simp [b_check_face, List.replicate, w, h]
theorem r_check_face {d : Dt} (h : areAll 3 d = false) : Rs F_check_face [d] "NoFace" [] := by
  have w : ∀ e, vof F_are_all [d, .int 3] e = .ok (.bool (areAll 3 d), e) := fun e => w_are_all d 3 (by omega) e
  refine run_rs rfl ?_
  simp [b_check_face, List.replicate, w, h]
/-- picks by places -/
def pk (t : List Nat) : Dt → Dt := fun x => match x with
  | .int i => di (t.getD i.toNat 0)
  | _ => .none
theorem pk_map (t f : List Nat) : (f.map di).map (pk t) = (pick t f).map di := by
  unfold pick
  rw [List.map_map, List.map_map]
  rfl
theorem sub_pk {t : List Nat} {i : Nat} (h : i < t.length) : subD (enc t) (di i) = some (pk t (di i)) := by
  have := sub_enc (r := t) (c := i) h
  rw [show di i = .int (i : Int) from rfl, this]
  unfold itm
  show some (((zi t).map PyData.int).getD i .none) = _
  rw [enc_get h]
  rfl
theorem tup_of (l : List Dt) : apB1 .tuple (.list l) = some (.tuple l) := rfl
theorem v_raw_turned_1 {t f : List Nat} {x0 x2 x4 : Dt} (ht : t.length = 3) (hf : ∀ i ∈ f, i < 3) (hl : f.length ≤ 1000) : ev T_raw_turned b_raw_turned_1 [x0, enc f, x2, enc t, x4] = .ok (.list ((pick t f).map di), [x0, enc f, x2, enc t, x4]) := by
  unfold b_raw_turned_1
  rw [lc0 (pk t) (xs := f.map di) (by simp [enc_map]) (by rw [List.length_map]; exact le_sz (by omega)) fun x hx => ?_, pk_map]
  obtain ⟨i, hi, rfl⟩ := List.mem_map.mp hx
  simp [sub_pk (t := t) (i := i) (by rw [ht]; exact hf i hi)]
theorem v_raw_turned {n : Nat} {rows : List (List Nat)} (L : Lat n rows) (hn : n ≤ 6) {f : List Nat} (hf : f ∈ faces) : Gv F_raw_turned [encs rows, enc f] (encs (turn n rows f)) := by
  have hl := L.2
  have cs := cells_small L hn
  have w1 : ∀ e, vof F_all_cells [encs rows] e = .ok (.list ((cellsC rows).map enc), e) := fun e => vof_gv (v_all_cells (by omega) (lat_getD L hn))
  have w2 : ∀ e, vof F_by_cells [.int n, .list (((cellsC rows).map fun t => pick t f).map enc)] e = .ok (encs (turn n rows f), e) := fun e => vof_gv (v_by_cells hn (by rw [List.length_map]; omega) (fits_turn L hf))
  have e2 : ∀ x2 x3 x4, ev T_raw_turned b_raw_turned_2 [encs rows, enc f, x2, x3, x4] = .ok (.list (((cellsC rows).map fun t => pick t f).map enc), [encs rows, enc f, x2, x3, x4]) := fun x2 x3 x4 => by
    unfold b_raw_turned_2
    rw [lc0 (fun x => match x with | .tuple [.int a, .int b, .int c] => enc (pick [a.toNat, b.toNat, c.toNat] f) | _ => .none) (xs := (cellsC rows).map enc) (by simp [w1]) (by rw [List.length_map]; exact le_sz (by omega)) fun x hx => ?_]
    · rw [List.map_map, List.map_map]
      congr 3
      refine List.map_congr_left fun t ht => ?_
      obtain ⟨r, c, _, _, rfl⟩ := (mem_cells L).mp ht
      rfl
    · obtain ⟨t, ht, rfl⟩ := List.mem_map.mp hx
      obtain ⟨r, c, _, _, rfl⟩ := (mem_cells L).mp ht
      have h1 := v_raw_turned_1 (t := [r, c, cell rows r c]) (f := f) (x0 := encs rows) (x2 := x2) (x4 := x4) rfl (face_lt hf).2 (by rw [(face_lt hf).1]; omega)
      simp only [List.set_cons_succ, List.set_cons_zero, ev_b1, h1, rb_ok, tup_of, mo_some]
      rw [← enc_map]
      rfl
  refine run_gv rfl (e' := [encs rows, enc f, .list (((cellsC rows).map fun t => pick t f).map enc), .none, .none]) ?_
  have le : apB1 .len (encs rows) = some (.int n) := by rw [show encs rows = .tuple (rows.map enc) from rfl, len_t, List.length_map, hl]
  simp only [b_raw_turned, exs_cons, ex_set, List.cons_append, List.nil_append, List.replicate, e2, rb_ok, List.set_cons_succ, List.set_cons_zero, ex_frz, exs_nil, ex_ret, kc_raw_turned_8, evsA_own, evsA_nil, ev_b1, ev_var, List.getD_cons_succ, List.getD_cons_zero, le, mo_some, w2, mp_at]
theorem lat_sq {n : Nat} {rows : List (List Nat)} (L : Lat n rows) (h1 : 1 ≤ n) (h6 : n ≤ 6) : squareB (encs rows) = true := by
  have e : encs rows = .tuple (rows.map enc) := rfl
  have hl : (rows.map enc).length = n := by rw [List.length_map]; exact L.2
  rw [e, squareB_t, hl, all_rect L.1, cols_rect L.1]
  simp [h1, h6]
section
variable {n : Nat} {rows : List (List Nat)} (L : Lat n rows) (h1 : 1 ≤ n) (h6 : n ≤ 6)
include L h1 h6
theorem w_check_square (e : Ev) : vof F_check_square [encs rows] e = .ok (.none, e) := vof_gv (v_check_square (lat_sq L h1 h6))
theorem v_turned {f : List Nat} (hf : f ∈ faces) : Gv F_turned [encs rows, enc f] (encs (turn n rows f)) := by
  have w1 := w_check_square L h1 h6
  have w2 : ∀ e, vof F_check_face [enc f] e = .ok (.none, e) := fun e => vof_gv (v_check_face (face_all hf))
  have w3 : ∀ e, vof F_raw_turned [encs rows, enc f] e = .ok (encs (turn n rows f), e) := fun e => vof_gv (v_raw_turned L h6 hf)
  refine run_gv rfl (e' := [encs rows, enc f]) ?_
  simp [b_turned, List.replicate, w1, w2, w3]
theorem r_turned_face {d : Dt} (h : areAll 3 d = false) : Rs F_turned [encs rows, d] "NoFace" [] := by
  have w1 := w_check_square L h1 h6
  refine run_rs rfl ?_
  simp [b_turned, List.replicate, w1, vof_rs (r_check_face h)]
end
theorem r_turned_square {d x : Dt} (h : squareB d = false) : Rs F_turned [d, x] "NoSquare" [] := by
  refine run_rs rfl ?_
  simp [b_turned, List.replicate, vof_rs (r_check_square h)]
theorem v_after_face {f g : List Nat} (hf : f ∈ faces) (hg : g ∈ faces) : Gv F_after_face [enc f, enc g] (enc (pick f g)) := by
  have w1 : ∀ e, vof F_check_face [enc f] e = .ok (.none, e) := fun e => vof_gv (v_check_face (face_all hf))
  have w2 : ∀ e, vof F_check_face [enc g] e = .ok (.none, e) := fun e => vof_gv (v_check_face (face_all hg))
  have e1 : ∀ x2, ev T_after_face b_after_face_1 [enc f, enc g, x2] = .ok (.list ((pick f g).map di), [enc f, enc g, x2]) := fun x2 => by
    unfold b_after_face_1
    rw [lc0 (pk f) (xs := g.map di) (by simp [enc_map]) (by rw [List.length_map, (face_lt hg).1]; exact le_sz (by omega)) fun x hx => ?_, pk_map]
    obtain ⟨i, hi, rfl⟩ := List.mem_map.mp hx
    simp [sub_pk (t := f) (i := i) (by rw [(face_lt hf).1]; exact (face_lt hg).2 i hi)]
  refine run_gv rfl (e' := [enc f, enc g, .none]) ?_
  rw [enc_map (pick f g)]
  simp [b_after_face, List.replicate, w1, w2, e1, tup_of]
theorem r_after_one {d x : Dt} (h : areAll 3 d = false) : Rs F_after_face [d, x] "NoFace" [] := by
  refine run_rs rfl ?_
  simp [b_after_face, List.replicate, vof_rs (r_check_face h)]
theorem r_after_two {f : List Nat} (hf : f ∈ faces) {d : Dt} (h : areAll 3 d = false) : Rs F_after_face [enc f, d] "NoFace" [] := by
  have w1 : ∀ e, vof F_check_face [enc f] e = .ok (.none, e) := fun e => vof_gv (v_check_face (face_all hf))
  refine run_rs rfl ?_
  simp [b_after_face, List.replicate, w1, vof_rs (r_check_face h)]
theorem v_all_faces : Gv F_all_faces [] (.list (faces.map enc)) := by
  have z3 : 3 ≤ sizeLine := le_sz (by omega)
  have z6 : 6 ≤ sizeLine := le_sz (by omega)
  refine run_gv rfl (e' := []) ?_
  simp [b_all_faces, List.replicate, z3, z6, faces, enc, zi]
/-! ### sameness of squares -/
theorem zi_nat : ∀ a : List Nat, (zi a).map Int.toNat = a
  | [] => rfl
  | x :: xs => by
    have ih := zi_nat xs
    show ((x : Int).toNat) :: (zi xs).map Int.toNat = _
    rw [ih, Int.toNat_natCast]
theorem zi_inj {a b : List Nat} (h : zi a = zi b) : a = b := by
  rw [← zi_nat a, ← zi_nat b, h]
theorem fmG {α : Type} {g : α → Dt} {o : Dt → Option Dt} {p : α → Bool} {k : α → Dt} : ∀ {l : List α}, (∀ x ∈ l, o (g x) = if p x = true then some (k x) else none) → (l.map g).filterMap o = (l.filter p).map k
  | [], _ => rfl
  | x :: l, h => by
    have ih := fmG (l := l) fun y hy => h y (List.mem_cons_of_mem _ hy)
    rw [List.map_cons, List.filterMap_cons, h x List.mem_cons_self, ih]
    cases q : p x <;> simp [List.filter_cons, q]
theorem eqv_enc (a b : List Nat) : PyData.eqv (enc a) (enc b) = decide (a = b) := by
  unfold enc
  rw [eqv_tints]
  by_cases h : a = b
  · subst h; simp
  · have : ¬ zi a = zi b := fun z => h (zi_inj z)
    simp [h, this]
theorem eqvAll_encs : ∀ a b : List (List Nat), PyData.eqvAll (a.map enc) (b.map enc) = decide (a = b)
  | [], [] => by simp [PyData.eqvAll]
  | [], y :: ys => by simp [PyData.eqvAll]
  | x :: xs, [] => by simp [PyData.eqvAll]
  | x :: xs, y :: ys => by
    simp only [List.map_cons, PyData.eqvAll, eqv_enc, eqvAll_encs xs ys]
    by_cases h : x = y <;> by_cases h2 : xs = ys <;> simp [h, h2]
theorem eqv_encs (a b : List (List Nat)) : PyData.eqv (encs a) (encs b) = decide (a = b) := by
  unfold encs
  rw [PyData.eqv, eqvAll_encs]
theorem eq_encs (a b : List (List Nat)) : opC .Eq (encs a) (encs b) = some (decide (a = b)) := by
  have e : opC .Eq (encs a) (encs b) = eqD (encs a) (encs b) := rfl
  rw [e]
  unfold eqD
  rw [if_pos ⟨shp_encs a, shp_encs b⟩, eqv_encs]
/-- the faces by which it is the same -/
noncomputable def ownF (n : Nat) (rows : List (List Nat)) : List (List Nat) := faces.filter fun f => decide (turn n rows f = rows)
noncomputable def oF (n : Nat) (rows : List (List Nat)) : Dt → Option Dt := fun x => match x with
  | .tuple [.int a, .int b, .int c] => if turn n rows [a.toNat, b.toNat, c.toNat] = rows then some x else none
  | _ => none
theorem v_own_faces {n : Nat} {rows : List (List Nat)} (L : Lat n rows) (h1 : 1 ≤ n) (h6 : n ≤ 6) : Gv F_own_faces [encs rows] (.tuple ((ownF n rows).map enc)) := by
  have w1 := w_check_square L h1 h6
  have w2 : ∀ e, vof F_all_faces [] e = .ok (.list (faces.map enc), e) := fun e => vof_gv v_all_faces
  have e1 : ∀ x1, ev T_own_faces b_own_faces_1 [encs rows, x1] = .ok (.list ((ownF n rows).map enc), [encs rows, x1]) := fun x1 => by
    unfold b_own_faces_1
    have ho : ∀ f ∈ faces, oF n rows (enc f) = if decide (turn n rows f = rows) = true then some (enc f) else none := fun f hf => by
      simp only [faces, List.mem_cons, List.not_mem_nil, or_false] at hf
      rcases hf with rfl | rfl | rfl | rfl | rfl | rfl <;> (simp only [decide_eq_true_eq]; rfl)
    rw [lc1 (oF n rows) (xs := faces.map enc) (by simp [w2]) (by rw [List.length_map]; exact le_sz (by decide)) fun x hx => ?_]
    · rw [fmG ho]; rfl
    · obtain ⟨f, hf, rfl⟩ := List.mem_map.mp hx
      have w3 : ∀ e, vof F_raw_turned [encs rows, enc f] e = .ok (encs (turn n rows f), e) := fun e => vof_gv (v_raw_turned L h6 hf)
      rw [ho f hf]
      by_cases q : turn n rows f = rows <;> simp [w3, eq_encs, q]
  refine run_gv rfl (e' := [encs rows, .none]) ?_
  simp [b_own_faces, List.replicate, w1, e1, tup_of]
end VL


set_option Elab.async false
set_option linter.all false
set_option maxRecDepth 100000
namespace VL
open PySem PL
/-! ### lists of rows that are written -/
def rowl (n : Nat) (g : Nat → Nat → Nat) (r : Nat) : Dt := .list ((List.range n).map fun c => di (g r c))
def encl (n : Nat) (g : Nat → Nat → Nat) : Dt := .list ((List.range n).map fun r => rowl n g r)
def up (g : Nat → Nat → Nat) (r c s : Nat) : Nat → Nat → Nat := fun a b => if a = r ∧ b = c then s else g a b
theorem ixn {n j : Nat} (hj : j < n) : L2.ixN n (j : Int) = some j := by
  unfold L2.ixN
  rw [if_pos (Int.natCast_nonneg j), if_pos (Int.ofNat_lt.mpr hj), Int.toNat_natCast]
theorem rng_get {α : Type} {n k : Nat} {f : Nat → α} (h : k < n) : ((List.range n).map f)[k]? = some (f k) := by
  rw [List.getElem?_map, List.getElem?_range h]; rfl
theorem sub_rng {n k : Nat} {f : Nat → Dt} (h : k < n) : subD (.list ((List.range n).map f)) (di k) = some (f k) := by
  show seqIx _ ((k : Nat) : Int) = _
  unfold seqIx
  rw [L2.atI_nat (rng_get h)]
theorem sub_rngT {n k : Nat} {f : Nat → Dt} (h : k < n) : subD (.tuple ((List.range n).map f)) (di k) = some (f k) := by
  show seqIx _ ((k : Nat) : Int) = _
  unfold seqIx
  rw [L2.atI_nat (rng_get h)]
theorem sub_encl {n r : Nat} {g : Nat → Nat → Nat} (h : r < n) : subD (encl n g) (di r) = some (rowl n g r) := sub_rng h
theorem sub_rowl {n r c : Nat} {g : Nat → Nat → Nat} (h : c < n) : subD (rowl n g r) (di c) = some (di (g r c)) := sub_rng (f := fun c => di (g r c)) h
theorem get_rng {n k : Nat} {f : Nat → Dt} (h : k < n) (ks : List Dt) : getAt (di k :: ks) (.list ((List.range n).map f)) = getAt ks (f k) := by
  show ((L2.ixN _ ((k : Nat) : Int)).bind fun k => (((List.range n).map f)[k]?).bind fun d => getAt ks d) = _
  rw [ixn (by simpa using h)]
  show (((List.range n).map f)[k]?).bind _ = _
  rw [rng_get h]; rfl
theorem get1 {n r : Nat} {g : Nat → Nat → Nat} (h : r < n) : getAt [di r] (encl n g) = some (rowl n g r) := by
  unfold encl
  rw [get_rng h]; rfl
theorem get2 {n r c : Nat} {g : Nat → Nat → Nat} (hr : r < n) (hc : c < n) : getAt [di r, di c] (encl n g) = some (di (g r c)) := by
  unfold encl
  rw [get_rng hr]
  unfold rowl
  rw [get_rng (f := fun c => di (g r c)) hc]; rfl
theorem set_rng {α : Type} {n k : Nat} {f : Nat → α} {x : α} : ((List.range n).map f).set k x = (List.range n).map fun i => if i = k then x else f i := by
  apply List.ext_getElem
  · simp
  · intro i h1 h2
    simp only [List.getElem_set, List.getElem_map, List.getElem_range]
    by_cases h : k = i
    · simp [h]
    · have : ¬ i = k := fun z => h z.symm
      simp [h, this]
theorem upd_rng {n k : Nat} {f : Nat → Dt} {F : Dt → Option (Unit × Dt)} {ks : List Dt} {x : Dt} (h : k < n) (hx : updAt F ks (f k) = some ((), x)) : updAt F (di k :: ks) (.list ((List.range n).map f)) = some ((), .list ((List.range n).map fun i => if i = k then x else f i)) := by
  show ((L2.ixN _ ((k : Nat) : Int)).bind fun k => (((List.range n).map f)[k]?).bind fun d => (updAt F ks d).map fun q => (q.1, PyData.list (((List.range n).map f).set k q.2))) = _
  rw [ixn (by simpa using h)]
  show (((List.range n).map f)[k]?).bind _ = _
  rw [rng_get h]
  show (updAt F ks (f k)).map _ = _
  rw [hx, ← set_rng]; rfl
theorem upd2 {n r c s : Nat} {g : Nat → Nat → Nat} (hr : r < n) (hc : c < n) : updAt (fun _ => some ((), di s)) [di r, di c] (encl n g) = some ((), encl n (up g r c s)) := by
  unfold encl
  rw [upd_rng (x := rowl n (up g r c s) r) hr (by
    unfold rowl
    rw [upd_rng (x := di s) hc rfl]
    congr 3
    refine List.map_congr_left fun b hb => ?_
    unfold up
    by_cases h : b = c <;> simp [h])]
  congr 3
  refine List.map_congr_left fun a ha => ?_
  by_cases h : a = r
  · subst h; simp
  · rw [if_neg h]
    unfold rowl
    congr 1
    refine List.map_congr_left fun b hb => ?_
    unfold up
    simp [h]
theorem encl_congr {n : Nat} {g h : Nat → Nat → Nat} (e : ∀ r c, r < n → c < n → g r c = h r c) : encl n g = encl n h := by
  unfold encl rowl
  congr 1
  refine List.map_congr_left fun r hr => ?_
  congr 1
  exact List.map_congr_left fun c hc => by rw [e r c (List.mem_range.mp hr) (List.mem_range.mp hc)]
/-- what is written, one behind the other -/
def fill (g : Nat → Nat → Nat) (cells : List (List Nat)) : Nat → Nat → Nat := cells.foldl (fun g t => up g (t.getD 0 0) (t.getD 1 0) (t.getD 2 0)) g
theorem fill_at {r c s : Nat} : ∀ {cells : List (List Nat)} {g : Nat → Nat → Nat}, (∀ t ∈ cells, t.getD 0 0 = r ∧ t.getD 1 0 = c → t.getD 2 0 = s) → ((∃ t ∈ cells, t.getD 0 0 = r ∧ t.getD 1 0 = c) ∨ g r c = s) → fill g cells r c = s
  | [], g, _, h => by
    rcases h with ⟨t, ht, _⟩ | h
    · cases ht
    · exact h
  | t :: cells, g, hf, h => by
    refine fill_at (cells := cells) (g := up g (t.getD 0 0) (t.getD 1 0) (t.getD 2 0)) (fun u hu => hf u (List.mem_cons_of_mem _ hu)) ?_
    by_cases hk : t.getD 0 0 = r ∧ t.getD 1 0 = c
    · right
      unfold up
      rw [if_pos ⟨hk.1.symm, hk.2.symm⟩]
      exact hf t List.mem_cons_self hk
    · rcases h with ⟨u, hu, hu2⟩ | h
      · rcases List.mem_cons.mp hu with rfl | hu
        · exact absurd hu2 hk
        · exact .inl ⟨u, hu, hu2⟩
      · right
        unfold up
        rw [if_neg fun z => hk ⟨z.1.symm, z.2.symm⟩]
        exact h
theorem fill_fits {n : Nat} {f g : Nat → Nat → Nat} {cells : List (List Nat)} (F : Fits n f cells) {r c : Nat} (hr : r < n) (hc : c < n) : fill g cells r c = f r c :=
  fill_at (fun t ht e => by
    obtain ⟨a, b, _, _, rfl⟩ := F.1 t ht
    have e1 : a = r := e.1
    have e2 : b = c := e.2
    rw [← e1, ← e2]; rfl) (.inl ⟨_, F.2 r c hr hc, rfl, rfl⟩)
theorem zeros {n : Nat} (hn : n ≤ 1000) : opB .Mult (.list [.int 0]) (.int n) = some (.list ((List.range n).map fun _ => di 0)) := by
  show seqRep [.int 0] (n : Int) = _
  unfold seqRep
  have h : -(2 ^ 63) ≤ (n : Int) ∧ (n : Int) < 2 ^ 63 ∧ [PyData.int 0].length * (n : Int).toNat ≤ sizeLine := by
    refine ⟨?_, ?_, ?_⟩
    · have : -(2 ^ 63 : Int) ≤ 0 := by decide
      omega
    · have : (1000 : Int) < 2 ^ 63 := by decide
      omega
    · rw [Int.toNat_natCast, List.length_singleton, Nat.one_mul]; exact le_sz (by omega)
  rw [if_pos h, Int.toNat_natCast]
  congr 2
  have e : ∀ k : Nat, (List.replicate k [PyData.int 0]).flatten = List.replicate k (di 0) := fun k => by
    induction k with
    | zero => rfl
    | succ k ih => rw [List.replicate_succ, List.flatten_cons, ih, List.replicate_succ]; rfl
  rw [e]
  apply List.ext_getElem
  · simp
  · intro i h1 h2; simp
/-- a tuple of tuples of it -/
def tupl : Dt → Dt
  | .list l => .tuple l
  | _ => .none
theorem tups_encl (n : Nat) (g : Nat → Nat → Nat) : ((List.range n).map fun r => rowl n g r).map tupl = (mk n g).map enc := by
  unfold mk
  rw [List.map_map, List.map_map]
  refine List.map_congr_left fun r _ => ?_
  show PyData.tuple _ = enc _
  rw [enc_map, List.map_map]
  rfl
end VL


set_option Elab.async false
set_option linter.all false
set_option maxRecDepth 100000
namespace VL
open PySem PL
theorem cat_ls (xs ys : List Dt) (h : xs.length + ys.length ≤ 1000000) : (opB .Add (.list xs) (.list ys)).bind (chkT (.ls .sh)) = some (.list (xs ++ ys)) := by
  rw [cat_l _ _ h]; rfl
theorem v__law_cells_1 {row : List Nat} {r : Nat} {x0 x1 x4 x5 : Dt} (hz : row.length ≤ 1000) : ev T__law_cells b__law_cells_1 [x0, x1, di r, enc row, x4, x5] = .ok (.list ((rowC r row).map enc), [x0, x1, di r, enc row, x4, x5]) := by
  unfold b__law_cells_1
  rw [lcG0 (fun x => match x with | .tuple [a, b] => .tuple [di r, a, b] | _ => .none) (ps2 4 5) (xs := (List.range row.length).map fun c => .tuple [di c, di (row.getD c 0)]) (by simp [enum_enc]) (by rw [List.length_map, List.length_range]; exact le_sz (by omega)) (fun x hx e' => by
      obtain ⟨c, _, rfl⟩ := List.mem_map.mp hx; exact bnd2) (fun x hx => ps2_fst x) fun x hx => ?_]
  · congr 3
    rw [List.map_map]
    unfold rowC
    rw [List.map_map]
    exact List.map_congr_left fun c _ => by simp [enc_map]
  · obtain ⟨c, _, rfl⟩ := List.mem_map.mp hx
    simp [three_sz]
theorem v__law_cells {rows : List (List Nat)} (hl : rows.length ≤ 6) (hr : ∀ r, (rows.getD r []).length ≤ 6) : Gv F__law_cells [encs rows] (.list ((cellsC rows).map enc)) := by
  obtain ⟨e', h1, x2, x3, x4, x5, rfl⟩ := for_all (f := fun x e => exs T__law_cells b__law_cells_2 (sets (ps2 2 3 x) e)) (xs := (List.range rows.length).map fun i => .tuple [di i, enc (rows.getD i [])]) (e := [encs rows, .list [], .none, .none, .none, .none])
    (fun k e => ∃ x2 x3 x4 x5, e = [encs rows, .list (((List.range k).flatMap fun r => rowC r (rows.getD r [])).map enc), x2, x3, x4, x5]) ⟨_, _, _, _, rfl⟩ fun k x e hx hi => by
      obtain ⟨x2, x3, x4, x5, rfl⟩ := hi
      obtain ⟨hk, rfl⟩ : k < rows.length ∧ x = .tuple [di k, enc (rows.getD k [])] := by
        obtain ⟨z1, z2⟩ := List.getElem?_eq_some_iff.mp hx
        exact ⟨by simpa using z1, by simpa using z2.symm⟩
      have b1 := cellsC_len hr k
      have b2 := Nat.mul_le_mul_right 6 (Nat.le_of_lt hk)
      have hu := cat_ls (((List.range k).flatMap fun r => rowC r (rows.getD r [])).map enc) ((rowC k (rows.getD k [])).map enc) (by simp only [List.length_map, rowC_len]; have := hr k; omega)
      refine ⟨[encs rows, .list (((List.range (k + 1)).flatMap fun r => rowC r (rows.getD r [])).map enc), di k, enc (rows.getD k []), x4, x5], ?_, _, _, _, _, rfl⟩
      rw [cellsC_take, List.map_append]
      simp only [ps2_t, sets_cons, sets_nil, List.set_cons_succ, List.set_cons_zero, b__law_cells_2, exs_cons, ex_set, ev_frz, ev_bop, ev_var, rb_ok, v__law_cells_1 (row := rows.getD k []) (r := k) (by have := hr k; omega), List.getD_cons_succ, List.getD_cons_zero, hu, mo_some, exs_nil]
  rw [List.length_map, List.length_range] at h1
  refine run_gv rfl (e' := [encs rows, .list ((cellsC rows).map enc), x2, x3, x4, x5]) ?_
  have z0 : 0 ≤ sizeLine := Nat.zero_le _
  simp only [b__law_cells, exs_cons, ex_set, ev_frz, ev_lst, evs_nil, rb_ok, List.length_nil, z0, if_true, mo_some, ex_for_tp, itr_enu, ev_var, List.cons_append, List.nil_append, List.replicate, List.set_cons_succ, List.set_cons_zero, List.getD_cons_zero, enum_encs]
  rw [for_tp2 fun x hx => by obtain ⟨i, _, rfl⟩ := List.mem_map.mp hx; exact ⟨_, _, rfl⟩]
  simp only [h1, rb_ok, exs_cons, ex_ret, ev_var, List.getD_cons_succ, List.getD_cons_zero]
  rfl
theorem v__law_by_cells_1 {n : Nat} {x1 x2 x3 x4 x5 x6 x7 : Dt} (hn : n ≤ 1000) : ev T__law_by_cells b__law_by_cells_1 [.int n, x1, x2, x3, x4, x5, x6, x7] = .ok (encl n (fun _ _ => 0), [.int n, x1, x2, x3, x4, x5, x6, x7]) := by
  unfold b__law_by_cells_1
  have ck : ∀ l : List Dt, chkT (.ls .sh) (.list l) = some (.list l) := fun _ => rfl
  rw [lc0 (fun _ => rowl n (fun _ _ => 0) 0) (xs := (List.range n).map di) (by simp [range_of hn]) (by rw [List.length_map, List.length_range]; exact le_sz (by omega)) fun x hx => ?_]
  · rw [List.map_map]; rfl
  · simp [show 1 ≤ sizeLine from le_sz (by omega), zeros hn, ck, rowl]
theorem one_sz' : 1 ≤ sizeLine := le_sz (by omega)
theorem v__law_by_cells {n : Nat} {f : Nat → Nat → Nat} {cells : List (List Nat)} (hn : n ≤ 6) (F : Fits n f cells) : Gv F__law_by_cells [.int n, .list (cells.map enc)] (encs (mk n f)) := by
  obtain ⟨e', h1, x3, x4, x5, x6, x7, rfl⟩ := for_all (f := fun x e => exs T__law_by_cells b__law_by_cells_2 (sets (ps3 3 4 5 x) e)) (xs := cells.map enc) (e := [.int n, .list (cells.map enc), encl n (fun _ _ => 0), .none, .none, .none, .none, .none])
    (fun k e => ∃ x3 x4 x5 x6 x7, e = [.int n, .list (cells.map enc), encl n (fill (fun _ _ => 0) (cells.take k)), x3, x4, x5, x6, x7]) ⟨_, _, _, _, _, rfl⟩ fun k x e hx hi => by
      obtain ⟨x3, x4, x5, x6, x7, rfl⟩ := hi
      rw [List.getElem?_map] at hx
      cases q : cells[k]? with
      | none => rw [q] at hx; cases hx
      | some t =>
        rw [q] at hx
        cases hx
        obtain ⟨r, c, hr, hc, rfl⟩ := F.1 t (List.mem_of_getElem? q)
        have ht : cells.take (k + 1) = cells.take k ++ [[r, c, f r c]] := by rw [List.take_add_one, q]; rfl
        have e3 : enc [r, c, f r c] = .tuple [di r, di c, di (f r c)] := rfl
        refine ⟨[.int n, .list (cells.map enc), encl n (fill (fun _ _ => 0) (cells.take (k + 1))), di r, di c, di (f r c), x6, x7], ?_, _, _, _, _, _, rfl⟩
        have ef : fill (fun _ _ => 0) (cells.take (k + 1)) = up (fill (fun _ _ => 0) (cells.take k)) r c (f r c) := by
          rw [ht]; unfold fill; rw [List.foldl_append]; rfl
        rw [e3, ef]
        simp only [ps3_t, sets_cons, sets_nil, List.set_cons_succ, List.set_cons_zero, b__law_by_cells_2, exs_cons, ex_setT, ev_var, rb_ok, List.getD_cons_succ, List.getD_cons_zero, bnd_at, pth_ix, pth_nm, List.nil_append, get1 hr, List.cons_append, get2 hr hc, upd2 hr hc, exs_nil]
  have hc : encl n (fill (fun _ _ => 0) cells) = encl n f := encl_congr fun r c hr hc => fill_fits F hr hc
  rw [List.length_map, List.take_length, hc] at h1
  have e3 : ∀ x3 x4 x5 x6 x7, ev T__law_by_cells b__law_by_cells_3 [.int n, .list (cells.map enc), encl n f, x3, x4, x5, x6, x7] = .ok (.list ((mk n f).map enc), [.int n, .list (cells.map enc), encl n f, x3, x4, x5, x6, x7]) := fun x3 x4 x5 x6 x7 => by
    unfold b__law_by_cells_3
    rw [lc0 tupl (xs := (List.range n).map fun r => rowl n f r) (by simp [encl]) (by rw [List.length_map, List.length_range]; exact le_sz (by omega)) fun x hx => ?_, tups_encl]
    obtain ⟨r, _, rfl⟩ := List.mem_map.mp hx
    simp [tup_of, rowl, tupl]
  refine run_gv rfl (e' := [.int n, .list (cells.map enc), encl n f, x3, x4, x5, x6, x7]) ?_
  simp only [b__law_by_cells, exs_cons, ex_set, List.cons_append, List.nil_append, List.replicate, v__law_by_cells_1 (show n ≤ 1000 by omega), rb_ok, List.set_cons_succ, List.set_cons_zero, ex_for_tp, itr_of, ev_var, List.getD_cons_succ, List.getD_cons_zero, seq_l, mo_some]
  rw [for_tp3 fun x hx => by
    obtain ⟨t, ht, rfl⟩ := List.mem_map.mp hx
    obtain ⟨r, c, _, _, rfl⟩ := F.1 t ht
    exact ⟨_, _, _, rfl⟩]
  simp [h1, e3, tup_of, encs]
theorem v__law_turned {n : Nat} {rows : List (List Nat)} (L : Lat n rows) (hn : n ≤ 6) {f : List Nat} (hf : f ∈ faces) : Gv F__law_turned [encs rows, enc f] (encs (turn n rows f)) := by
  have hl := L.2
  have cs := cells_small L hn
  have w1 : ∀ e, vof F__law_cells [encs rows] e = .ok (.list ((cellsC rows).map enc), e) := fun e => vof_gv (v__law_cells (by omega) (lat_getD L hn))
  have w2 : ∀ e, vof F__law_by_cells [.int n, .list (((cellsC rows).map fun t => pick t f).map enc)] e = .ok (encs (turn n rows f), e) := fun e => vof_gv (v__law_by_cells hn (fits_turn L hf))
  have e2 : ∀ x2, ev T__law_turned b__law_turned_1 [encs rows, enc f, x2] = .ok (.list (((cellsC rows).map fun t => pick t f).map enc), [encs rows, enc f, x2]) := fun x2 => by
    unfold b__law_turned_1
    rw [lc0 (fun x => match x with | .tuple [.int a, .int b, .int c] => enc (pick [a.toNat, b.toNat, c.toNat] f) | _ => .none) (xs := (cellsC rows).map enc) (by simp [w1]) (by rw [List.length_map]; exact le_sz (by omega)) fun x hx => ?_]
    · rw [List.map_map, List.map_map]
      congr 3
      refine List.map_congr_left fun t ht => ?_
      obtain ⟨r, c, _, _, rfl⟩ := (mem_cells L).mp ht
      rfl
    · obtain ⟨t, ht, rfl⟩ := List.mem_map.mp hx
      obtain ⟨r, c, _, _, rfl⟩ := (mem_cells L).mp ht
      obtain ⟨i, j, k, rfl⟩ : ∃ i j k, f = [i, j, k] := by
        simp only [faces, List.mem_cons, List.not_mem_nil, or_false] at hf
        rcases hf with rfl | rfl | rfl | rfl | rfl | rfl <;> exact ⟨_, _, _, rfl⟩
      have s0 : subD (enc [i, j, k]) (.int 0) = some (di i) := rfl
      have s1 : subD (enc [i, j, k]) (.int 1) = some (di j) := rfl
      have s2 : subD (enc [i, j, k]) (.int 2) = some (di k) := rfl
      have hb := (face_lt hf).2
      have p : ∀ i, i < 3 → subD (enc [r, c, cell rows r c]) (di i) = some (di ([r, c, cell rows r c].getD i 0)) := fun i hi => sub_pk (t := [r, c, cell rows r c]) (i := i) hi
      simp only [List.set_cons_succ, List.set_cons_zero, ev_tup, evs_cons, evs_nil, ev_sub, ev_var, List.getD_cons_succ, List.getD_cons_zero, rb_ok, ev_int, s0, s1, s2, mo_some, p i (hb i (by simp)), p j (hb j (by simp)), p k (hb k (by simp)), List.length_cons, List.length_nil, three_sz, if_true]
      rfl
  have le : apB1 .len (encs rows) = some (.int n) := by rw [show encs rows = .tuple (rows.map enc) from rfl, len_t, List.length_map, hl]
  refine run_gv rfl (e' := [encs rows, enc f, .none]) ?_
  simp only [b__law_turned, exs_cons, ex_ret, List.cons_append, List.nil_append, List.replicate, kc__law_turned_22, evsA_own, evsA_nil, ev_b1, ev_frz, e2, rb_ok, ev_var, List.getD_cons_succ, List.getD_cons_zero, le, mo_some, w2, mp_at]
end VL


set_option Elab.async false
set_option linter.all false
set_option maxRecDepth 100000
/-! P4: the hand of draws, plain. -/
namespace VL
open PySem
def hnd (cs : List Int) (a b c d : Int) : Dt := .list [.list (cs.map .int), .int a, .int b, .int c, .int d]
/-- a hand that may be drawn from -/
def HI (H : Dt) : Prop := ∃ (cs : List Int) (p : Nat) (b c d : Int), H = hnd cs p b c d
theorem hnd_0 (cs : List Int) (a b c d : Int) : subD (hnd cs a b c d) (.int 0) = some (.list (cs.map .int)) := rfl
theorem hnd_1 (cs : List Int) (a b c d : Int) : subD (hnd cs a b c d) (.int 1) = some (.int a) := rfl
theorem hnd_2 (cs : List Int) (a b c d : Int) : subD (hnd cs a b c d) (.int 2) = some (.int b) := rfl
theorem hnd_3 (cs : List Int) (a b c d : Int) : subD (hnd cs a b c d) (.int 3) = some (.int c) := rfl
theorem hnd_4 (cs : List Int) (a b c d : Int) : subD (hnd cs a b c d) (.int 4) = some (.int d) := rfl
theorem hnd_u1 (cs : List Int) (a b c d v : Int) : updAt (fun _ => some ((), PyData.int v)) [.int 1] (hnd cs a b c d) = some ((), hnd cs v b c d) := rfl
theorem hnd_u2 (cs : List Int) (a b c d v : Int) : updAt (fun _ => some ((), PyData.int v)) [.int 2] (hnd cs a b c d) = some ((), hnd cs a v c d) := rfl
theorem hnd_u3 (cs : List Int) (a b c d v : Int) : updAt (fun _ => some ((), PyData.int v)) [.int 3] (hnd cs a b c d) = some ((), hnd cs a b v d) := rfl
theorem hnd_u4 (cs : List Int) (a b c d v : Int) : updAt (fun _ => some ((), PyData.int v)) [.int 4] (hnd cs a b c d) = some ((), hnd cs a b c v) := rfl
theorem hnd_g1 (cs : List Int) (a b c d : Int) : getAt [.int 1] (hnd cs a b c d) = some (.int a) := rfl
theorem hnd_g2 (cs : List Int) (a b c d : Int) : getAt [.int 2] (hnd cs a b c d) = some (.int b) := rfl
theorem hnd_g3 (cs : List Int) (a b c d : Int) : getAt [.int 3] (hnd cs a b c d) = some (.int c) := rfl
theorem hnd_g4 (cs : List Int) (a b c d : Int) : getAt [.int 4] (hnd cs a b c d) = some (.int d) := rfl
def small (j : Int) : Bool := decide (-(2 ^ 64) < j) && decide (j < 2 ^ 64)
theorem mul_r (i : Int) {j : Int} (h : small j = true) : opB .Mult (.int i) (.int j) = some (.int (i * j)) := by
  show (if fitsMul i j = true then _ else _) = _
  unfold fitsMul small at *
  rw [h, Bool.or_true, if_pos rfl]
theorem mul_l {i : Int} (j : Int) (h : small i = true) : opB .Mult (.int i) (.int j) = some (.int (i * j)) := by
  show (if fitsMul i j = true then _ else _) = _
  unfold fitsMul small at *
  rw [h, Bool.true_or, if_pos rfl]
theorem mod_i (i : Int) {j : Int} (h : j ≠ 0) : opB .Mod (.int i) (.int j) = some (.int (i.fmod j)) := by
  show (if j ≠ 0 then _ else _) = _
  rw [if_pos h]
theorem div_i (i : Int) {j : Int} (h : j ≠ 0 ∧ j.natAbs < 1073741824) : opB .FloorDiv (.int i) (.int j) = some (.int (i.fdiv j)) := by
  show (if j ≠ 0 ∧ j.natAbs < 1073741824 then _ else _) = _
  rw [if_pos h]
theorem pow_i {i j : Int} (h : 0 ≤ j ∧ j ≤ 1000000 ∧ i.natAbs < 2 ^ 64) : opB .Pow (.int i) (.int j) = some (.int (i ^ j.toNat)) := by
  show (if 0 ≤ j ∧ j ≤ 1000000 ∧ i.natAbs < 2 ^ 64 then _ else _) = _
  rw [if_pos h]
theorem sm_of {j : Int} (h1 : 0 ≤ j) (h2 : j < 2147483648) : small j = true := by
  unfold small
  simp only [Bool.and_eq_true, decide_eq_true_eq]
  constructor
  · have : (0 : Int) < 2 ^ 64 := by decide
    omega
  · have : (2147483648 : Int) < 2 ^ 64 := by decide
    omega
theorem cell_at {cs : List Int} {p : Nat} (h : p < cs.length) : subD (.list (cs.map .int)) (.int (p : Int)) = some (.int (cs.getD p 0)) := by
  show seqIx _ _ = _
  unfold seqIx
  rw [L2.atI_nat (v := .int (cs.getD p 0)) (by rw [List.getElem?_map, List.getElem?_eq_getElem h, List.getD_eq_getElem?_getD, List.getElem?_eq_getElem h]; rfl)]
end VL


set_option Elab.async false
set_option linter.all false
set_option maxRecDepth 100000
namespace VL
open PySem PL
def tlS : Ss → Ss
  | .cons _ r => r
  | .nil => .nil
def hdS : Ss → S
  | .cons a _ => a
  | .nil => .pas ⟨0, 0, 0, 0⟩
def num1 (c d : Int) : Int := ((c + 7919 * d) * 48271).fmod 2147483647
def num2 (x : Int) : Int := (x * (x.fdiv 1009 + 69621)).fmod 2147483647
def num3 (x : Int) : Int := (x * (x.fdiv 2003 + 40014)).fmod 2147483563
theorem draw_a {cs : List Int} {p : Nat} {b c d : Int} {many : Int} : ∃ (p' : Nat) (b' c' : Int) (x2 : Dt), ex T__law_draw (hdS b__law_draw) [hnd cs p b c d, .int many, .none, .none, .none] = .ok (.nx, [hnd cs p' b' c' d, .int many, x2, .none, .none]) := by
  have m1 : small 69621 = true := by decide
  have m2 : small 40692 = true := by decide
  have q1 : (2147483629 : Int) ≠ 0 := by decide
  have q2 : (0 : Int) ≤ 18 ∧ (18 : Int) ≤ 1000000 ∧ (10 : Int).natAbs < 2 ^ 64 := by decide
  by_cases hb : b = 0
  · subst hb
    by_cases hp : p < cs.length
    · obtain ⟨cell, hcell⟩ : ∃ z : Int, subD (.list (cs.map .int)) (.int (p : Int)) = some (.int z) := ⟨_, cell_at hp⟩
      by_cases hc : (10 : Int) ^ (18 : Int).toNat ≤ cell
      · have hg : opC .GtE (.int cell) (.int ((10 : Int) ^ (18 : Int).toNat)) = some true := by rw [opC_ge, decide_eq_true hc]
        refine ⟨p + 1, cell, (c * 69621 + cell * 40692 + 31).fmod 2147483629, .int cell, ?_⟩
        simp [-Int.reducePow, -Int.reduceToNat, hdS, b__law_draw, hnd_0, hnd_1, hnd_2, hnd_3, hnd_u1, hnd_u2, hnd_u3, hnd_g1, hnd_g2, hnd_g3, opC_eq_int, opC_lt, hp, hcell, mul_r _ m1, mul_r _ m2, mod_i _ q1, pow_i q2, hg]
      · have hg : opC .GtE (.int cell) (.int ((10 : Int) ^ (18 : Int).toNat)) = some false := by rw [opC_ge, decide_eq_false hc]
        refine ⟨p + 1, 0, (c * 69621 + cell * 40692 + 31).fmod 2147483629, .int cell, ?_⟩
        simp [-Int.reducePow, -Int.reduceToNat, hdS, b__law_draw, hnd_0, hnd_1, hnd_2, hnd_3, hnd_u1, hnd_u2, hnd_u3, hnd_g1, hnd_g2, hnd_g3, opC_eq_int, opC_lt, hp, hcell, mul_r _ m1, mul_r _ m2, mod_i _ q1, pow_i q2, hg]
    · refine ⟨p, 0, c, .none, ?_⟩
      simp [hdS, b__law_draw, hnd_0, hnd_1, hnd_2, opC_eq_int, opC_lt, hp]
  · refine ⟨p, b, c, .none, ?_⟩
    simp [hdS, b__law_draw, hnd_2, opC_eq_int, hb]
theorem fm_pos {a : Int} {m : Int} (h : 0 < m) : 0 ≤ a.fmod m ∧ a.fmod m < m := ⟨Int.fmod_nonneg_of_pos a h, Int.fmod_lt_of_pos a h⟩
theorem draw_b {cs : List Int} {p : Nat} {b c d : Int} {many : Int} {x2 : Dt} (hm : 0 < many) (hs : many < 1073741824) : ∃ (b' d' k : Int) (x3 x4 : Dt), (0 ≤ k ∧ k < many) ∧ exs T__law_draw (tlS b__law_draw) [hnd cs p b c d, .int many, x2, .none, .none] = .ok (.rt (.int k), [hnd cs p b' c d', .int many, x2, x3, x4]) := by
  have hm0 : many ≠ 0 := by omega
  have hm1 : many ≠ 0 ∧ many.natAbs < 1073741824 := by omega
  by_cases hb : 0 < b
  · refine ⟨b.fdiv many, d, b.fmod many, .int (b.fmod many), .none, fm_pos hm, ?_⟩
    simp [tlS, b__law_draw, hnd_2, hnd_u2, hnd_g2, opC_gt, hb, mod_i _ hm0, div_i _ hm1]
  · have m1 : small 7919 = true := by decide
    have m2 : small 48271 = true := by decide
    have q1 : (2147483647 : Int) ≠ 0 := by decide
    have q2 : (2147483563 : Int) ≠ 0 := by decide
    have q3 : (1009 : Int) ≠ 0 ∧ (1009 : Int).natAbs < 1073741824 := by decide
    have q4 : (2003 : Int) ≠ 0 ∧ (2003 : Int).natAbs < 1073741824 := by decide
    have q5 : (16 : Int) ≠ 0 ∧ (16 : Int).natAbs < 1073741824 := by decide
    have e1 : ((c + 7919 * (d + 1)) * 48271).fmod 2147483647 = num1 c (d + 1) := rfl
    have s1 : small (num1 c (d + 1)) = true := by
      have := fm_pos (a := (c + 7919 * (d + 1)) * 48271) (m := 2147483647) (by decide)
      exact sm_of this.1 (by unfold num1; omega)
    generalize num1 c (d + 1) = n1 at e1 s1
    have e2 : (n1 * (n1.fdiv 1009 + 69621)).fmod 2147483647 = num2 n1 := rfl
    have s2 : small (num2 n1) = true := by
      have := fm_pos (a := n1 * (n1.fdiv 1009 + 69621)) (m := 2147483647) (by decide)
      exact sm_of this.1 (by unfold num2; omega)
    generalize num2 n1 = n2 at e2 s2
    refine ⟨b, d + 1, ((num3 n2).fdiv 16).fmod many, .none, .int (num3 n2), fm_pos hm, ?_⟩
    simp [tlS, b__law_draw, hnd_2, hnd_3, hnd_4, hnd_u4, hnd_g4, opC_gt, hb, mul_l _ m1, mul_r _ m2, mod_i _ q1, mod_i _ q2, div_i _ q3, div_i _ q4, div_i _ q5, e1, mul_l _ s1, e2, mul_l _ s2, mod_i _ hm0, num3]
theorem v__law_draw {H : Dt} {many : Int} (h : HI H) (hm : 0 < many) (hs : many < 1073741824) : ∃ (H' : Dt) (k : Int), HI H' ∧ (0 ≤ k ∧ k < many) ∧ F__law_draw.sem [H, .int many] = .ok (.int k, [H', .int many]) := by
  obtain ⟨cs, p, b, c, d, rfl⟩ := h
  obtain ⟨p', b', c', x2, h1⟩ := draw_a (cs := cs) (p := p) (b := b) (c := c) (d := d) (many := many)
  obtain ⟨b'', d', k, x3, x4, hk, h2⟩ := draw_b (cs := cs) (p := p') (b := b') (c := c') (d := d) (many := many) (x2 := x2) hm hs
  refine ⟨hnd cs p' b'' c' d', k, ⟨cs, p', b'', c', d', rfl⟩, hk, ?_⟩
  refine run_out rfl (e' := [hnd cs p' b'' c' d', .int many, x2, x3, x4]) ?_
  have hb : b__law_draw = .cons (hdS b__law_draw) (tlS b__law_draw) := rfl
  rw [hb, exs_cons]
  show rb (ex T__law_draw (hdS b__law_draw) [hnd cs p b c d, .int many, .none, .none, .none]) _ = _
  rw [h1, rb_ok]
  exact h2
theorem nat_of {k : Int} {n : Nat} (h : 0 ≤ k ∧ k < (n : Int)) : ∃ i : Nat, k = (i : Int) ∧ i < n := ⟨k.toNat, by omega, by omega⟩
/-- an item, drawn -/
theorem v__law_any {H : Dt} {xs : List Dt} (h : HI H) (h0 : xs ≠ []) (hs : xs.length < 1073741824) : ∃ (H' : Dt) (x : Dt), HI H' ∧ x ∈ xs ∧ F__law_any.sem [H, .list xs] = .ok (x, [H', .list xs]) := by
  have hp : 0 < xs.length := List.length_pos_iff.mpr h0
  obtain ⟨H', k, h1, hk, h2⟩ := v__law_draw h (many := (xs.length : Int)) (by omega) (by omega)
  obtain ⟨i, rfl, hi⟩ := nat_of hk
  refine ⟨H', xs[i], h1, List.getElem_mem hi, ?_⟩
  have s1 : subD (.list xs) (.int (i : Int)) = some xs[i] := by
    show seqIx xs (i : Int) = _
    unfold seqIx
    rw [L2.atI_nat (v := xs[i]) (List.getElem?_eq_getElem hi)]
  refine run_out rfl (e' := [H', .list xs]) ?_
  simp [b__law_any, List.replicate, vofR_of h2, s1]
end VL


set_option Elab.async false
set_option linter.all false
set_option maxRecDepth 100000
namespace VL
open PySem PL
theorem v__law_all3 : Gv F__law_all [.int 3] (.list (faces.map enc)) := ⟨[.int 3], by kernel_rfl⟩
theorem erase_map : ∀ (l : List Nat) (i : Nat), (l.map di).eraseIdx i = (l.eraseIdx i).map di
  | [], _ => rfl
  | x :: l, 0 => rfl
  | x :: l, i + 1 => by simp [erase_map l i]
theorem erase_perm : ∀ (l : List Nat) (i : Nat) (h : i < l.length), (l[i] :: l.eraseIdx i).Perm l
  | x :: l, 0, _ => List.Perm.refl _
  | x :: l, i + 1, h => by
    have h' : i < l.length := by simpa using h
    have ih := erase_perm l i h'
    show (l[i]'h' :: x :: l.eraseIdx i).Perm (x :: l)
    exact (List.Perm.swap x _ _).trans (List.Perm.cons x ih)
theorem pop_at {l : List Nat} {i : Nat} (h : i < l.length) (hz : l.length ≤ 1000) : updAt (fun d => apMth .pop d [.int (i : Int)]) [] (.list (l.map di)) = some (di (l.getD i 0), .list ((l.eraseIdx i).map di)) := by
  have hr : inR (i : Int) = true := by unfold inR; simp; omega
  show (if inR (i : Int) = true then (L2.ixN (l.map di).length (i : Int)).bind fun k => ((l.map di)[k]?).map fun d => (d, PyData.list ((l.map di).eraseIdx k)) else none) = _
  rw [if_pos hr, ixn (by simpa using h)]
  show (((l.map di)[i]?).map fun d => (d, PyData.list ((l.map di).eraseIdx i))) = _
  rw [List.getElem?_map, List.getElem?_eq_getElem h]
  show some (di l[i], PyData.list ((l.map di).eraseIdx i)) = _
  rw [erase_map, List.getD_eq_getElem?_getD, List.getElem?_eq_getElem h]
  rfl
theorem app_at (xs : List Dt) (d : Dt) (h : xs.length < 1000000) : updAt (fun z => apMth .append z [d]) [] (.list xs) = some (.none, .list (xs ++ [d])) := by
  show (if xs.length < sizeLine then some (PyData.none, PyData.list (xs ++ [d])) else none) = _
  rw [if_pos (by rw [sizeLine_eq]; omega)]
theorem perm_pop {l f : List Nat} {i n : Nat} (h : i < l.length) (p : (f ++ l).Perm (List.range n)) : ((f ++ [l.getD i 0]) ++ l.eraseIdx i).Perm (List.range n) := by
  have e : (l.getD i 0 :: l.eraseIdx i).Perm l := by
    rw [List.getD_eq_getElem?_getD, List.getElem?_eq_getElem h]
    exact erase_perm l i h
  rw [List.append_assoc]
  exact (List.Perm.append_left f e).trans p
/-- a drawn order of all signs -/
theorem v__law_names {H : Dt} {n : Nat} (h : HI H) (hn : n ≤ 6) : ∃ (H' : Dt) (p : List Nat), HI H' ∧ p.Perm (List.range n) ∧ F__law_names.sem [H, .int n] = .ok (enc p, [H', .int n]) := by
  obtain ⟨e', h1, H', l, f, x4, hi', hl, hp, rfl⟩ := for_all (f := fun x e => exs T__law_names b__law_names_1 (e.set 4 x)) (xs := (List.range n).map di) (e := [H, .int n, .list ((List.range n).map di), .list (([] : List Nat).map di), .none])
    (fun k e => ∃ H' l f x4, HI H' ∧ l.length + k = n ∧ (f ++ l).Perm (List.range n) ∧ e = [H', .int n, .list (l.map di), .list (f.map di), x4]) ⟨H, List.range n, [], .none, h, by simp, by simp, rfl⟩ fun k x e hx hi => by
      obtain ⟨H', l, f, x4, hi', hl, hp, rfl⟩ := hi
      have hk : k < n := by
        have := (List.getElem?_eq_some_iff.mp hx).1
        simpa using this
      obtain ⟨H2, c, hi2, hc, hs⟩ := v__law_draw (many := (l.length : Int)) hi' (by omega) (by omega)
      obtain ⟨i, rfl, hic⟩ := nat_of hc
      have hf : f.length ≤ 6 := by
        have := hp.length_eq
        simp at this
        omega
      have le : apB1 .len (.list (l.map di)) = some (.int l.length) := by rw [len_l, List.length_map]
      have pa := pop_at (l := l) (i := i) hic (by omega)
      have aa := app_at (f.map di) (di (l.getD i 0)) (by simp; omega)
      have er : (l.eraseIdx i).length + (k + 1) = n := by rw [List.length_eraseIdx_of_lt hic]; omega
      refine ⟨[H2, .int n, .list ((l.eraseIdx i).map di), .list ((f ++ [l.getD i 0]).map di), x], ?_, H2, _, _, x, hi2, er, perm_pop hic hp, rfl⟩
      simp only [List.set_cons_succ, List.set_cons_zero, b__law_names_1, exs_cons, ex_exp, ev_mut, pth_nm, rb_ok, evs_cons, evs_nil, kc__law_names_16, evsA_ref, evsA_own, evsA_nil, ev_b1, ev_var, List.getD_cons_succ, List.getD_cons_zero, le, mo_some, vofR_of hs, outs_ref, outs_own, outs_nil, sto_cons, sto_nil, pa, aa, exs_nil, List.map_append, List.map_cons, List.map_nil]
  rw [List.length_map, List.length_range] at hl
  have l0 : l = [] := List.length_eq_zero_iff.mp (by omega)
  subst l0
  rw [List.append_nil] at hp
  refine ⟨H', f, hi', hp, ?_⟩
  refine run_out rfl (e' := [H', .int n, .list [], .list (f.map di), x4]) ?_
  have z0 : 0 ≤ sizeLine := Nat.zero_le _
  have al : ∀ l : List Dt, apB1 .list (.list l) = some (.list l) := fun _ => rfl
  simp only [b__law_names, exs_cons, ex_setP, evs_cons, evs_nil, ev_b1r, rb_ok, ev_var, List.cons_append, List.nil_append, List.replicate, List.getD_cons_succ, List.getD_cons_zero, range_of (show n ≤ 1000 by omega), Option.bind_some, al, mo_some, ev_lst, List.length_nil, z0, if_true, bnds_cons, bnd_nm, bnds_nil, List.set_cons_succ, List.set_cons_zero, ex_for_nm, itr_rng]
  simp only [List.map_nil] at h1
  rw [h1]
  rw [enc_map]
  simp [tup_of]
end VL


set_option Elab.async false
set_option linter.all false
set_option maxRecDepth 100000
namespace VL
open PySem PL
theorem fill_app (g : Nat → Nat → Nat) (a b : List (List Nat)) : fill g (a ++ b) = fill (fill g a) b := by unfold fill; rw [List.foldl_append]
/-- an order of all signs -/
structure Pm (n : Nat) (p : List Nat) : Prop where
  len : p.length = n
  lt : ∀ i, i < n → p.getD i 0 < n
  inj : ∀ i j, i < n → j < n → p.getD i 0 = p.getD j 0 → i = j
  sur : ∀ a, a < n → ∃ i, i < n ∧ p.getD i 0 = a
theorem pm_of {n : Nat} {p : List Nat} (h : p.Perm (List.range n)) : Pm n p := by
  have hl : p.length = n := by simpa using h.length_eq
  have nd : p.Nodup := h.nodup_iff.mpr List.nodup_range
  have g : ∀ i, i < n → p[i]? = some (p.getD i 0) := fun i hi => by
    rw [List.getD_eq_getElem?_getD, List.getElem?_eq_getElem (by omega)]; rfl
  refine ⟨hl, fun i hi => ?_, fun i j hi hj e => nodup_get nd (g i hi) (by rw [g j hj, e]), fun a ha => ?_⟩
  · have := List.mem_of_getElem? (g i hi)
    simpa using h.mem_iff.mp this
  · have := h.mem_iff.mpr (List.mem_range.mpr ha)
    obtain ⟨i, hi, e⟩ := List.getElem_of_mem this
    refine ⟨i, by omega, ?_⟩
    have z := g i (by omega)
    rw [List.getElem?_eq_getElem hi] at z
    rw [← e]; exact (Option.some.inj z).symm
theorem sub_at {t : List Nat} {i : Nat} (h : i < t.length) : subD (enc t) (di i) = some (di (t.getD i 0)) := sub_pk h
theorem sub_row {n : Nat} {A : List (List Nat)} (L : Lat n A) {r : Nat} (hr : r < n) : subD (encs A) (di r) = some (enc (A.getD r [])) := by
  show seqIx (A.map enc) ((r : Nat) : Int) = _
  unfold seqIx
  have : A[r]? = some (A.getD r []) := by rw [List.getD_eq_getElem?_getD, List.getElem?_eq_getElem (by rw [L.2]; exact hr)]; rfl
  rw [L2.atI_nat (v := enc (A.getD r [])) (by rw [List.getElem?_map, this]; rfl)]
theorem sub_cell {n : Nat} {A : List (List Nat)} (L : Lat n A) {r c : Nat} (hr : r < n) (hc : c < n) : subD (enc (A.getD r [])) (di c) = some (di (cell A r c)) := sub_at (by rw [L.1.len _ (lat_row L hr)]; exact hc)
section
variable {n : Nat} {A : List (List Nat)} {ρ κ σ : List Nat}
def mvR (n : Nat) (A : List (List Nat)) (ρ κ σ : List Nat) (r : Nat) : List (List Nat) := (List.range n).map fun c => [ρ.getD r 0, κ.getD c 0, σ.getD (cell A r c) 0]
def mvC (n : Nat) (A : List (List Nat)) (ρ κ σ : List Nat) : List (List Nat) := (List.range n).flatMap (mvR n A ρ κ σ)
noncomputable def mvG (n : Nat) (A : List (List Nat)) (ρ κ σ : List Nat) : Nat → Nat → Nat := fill (fun _ _ => 0) (mvC n A ρ κ σ)
theorem mvG_at (hρ : Pm n ρ) (hκ : Pm n κ) {r c : Nat} (hr : r < n) (hc : c < n) : mvG n A ρ κ σ (ρ.getD r 0) (κ.getD c 0) = σ.getD (cell A r c) 0 := by
  refine fill_at (fun t ht e => ?_) (.inl ⟨_, List.mem_flatMap.mpr ⟨r, List.mem_range.mpr hr, List.mem_map.mpr ⟨c, List.mem_range.mpr hc, rfl⟩⟩, rfl, rfl⟩)
  obtain ⟨r', hr', ht⟩ := List.mem_flatMap.mp ht
  obtain ⟨c', hc', rfl⟩ := List.mem_map.mp ht
  have e1 := hρ.inj r' r (List.mem_range.mp hr') hr e.1
  have e2 := hκ.inj c' c (List.mem_range.mp hc') hc e.2
  subst e1; subst e2; rfl
theorem moved_lat (L : Lat n A) (hρ : Pm n ρ) (hκ : Pm n κ) (hσ : Pm n σ) : Lat n (mk n (mvG n A ρ κ σ)) := by
  refine mk_lat (fun a b ha hb => ?_) (fun a b d ha hb hd e => ?_) (fun a t b ha ht hb e => ?_)
  · obtain ⟨r, hr, rfl⟩ := hρ.sur a ha
    obtain ⟨c, hc, rfl⟩ := hκ.sur b hb
    rw [mvG_at hρ hκ hr hc]
    exact hσ.lt _ (lat_lt L hr hc)
  · obtain ⟨r, hr, rfl⟩ := hρ.sur a ha
    obtain ⟨c, hc, rfl⟩ := hκ.sur b hb
    obtain ⟨c', hc', rfl⟩ := hκ.sur d hd
    rw [mvG_at hρ hκ hr hc, mvG_at hρ hκ hr hc'] at e
    rw [lat_col L hr hc hc' (hσ.inj _ _ (lat_lt L hr hc) (lat_lt L hr hc') e)]
  · obtain ⟨r, hr, rfl⟩ := hρ.sur a ha
    obtain ⟨r', hr', rfl⟩ := hρ.sur t ht
    obtain ⟨c, hc, rfl⟩ := hκ.sur b hb
    rw [mvG_at hρ hκ hr hc, mvG_at hρ hκ hr' hc] at e
    rw [lat_row_inj L hr hr' hc (hσ.inj _ _ (lat_lt L hr hc) (lat_lt L hr' hc) e)]
theorem v__law_moved_3 (L : Lat n A) (hn : n ≤ 6) (hρ : Pm n ρ) (hκ : Pm n κ) (hσ : Pm n σ) {g : Nat → Nat → Nat} {r : Nat} (hr : r < n) {x7 x8 x9 : Dt} :
    ∃ x7', exs T__law_moved b__law_moved_3 [encs A, enc ρ, enc κ, enc σ, .int n, encl n g, di r, x7, x8, x9] = .ok (.nx, [encs A, enc ρ, enc κ, enc σ, .int n, encl n (fill g (mvR n A ρ κ σ r)), di r, x7', x8, x9]) := by
  obtain ⟨e', h1, x7', rfl⟩ := for_all (f := fun x e => exs T__law_moved b__law_moved_2 (e.set 7 x)) (xs := (List.range n).map di) (e := [encs A, enc ρ, enc κ, enc σ, .int n, encl n g, di r, x7, x8, x9])
    (fun k e => ∃ x7, e = [encs A, enc ρ, enc κ, enc σ, .int n, encl n (fill g ((List.range k).map fun c => [ρ.getD r 0, κ.getD c 0, σ.getD (cell A r c) 0])), di r, x7, x8, x9]) ⟨x7, rfl⟩ fun k x e hx hi => by
      obtain ⟨x7, rfl⟩ := hi
      obtain ⟨hk, rfl⟩ : k < n ∧ x = di k := by
        obtain ⟨z1, z2⟩ := List.getElem?_eq_some_iff.mp hx
        exact ⟨by simpa using z1, by simpa using z2.symm⟩
      have s1 := sub_at (t := ρ) (i := r) (by rw [hρ.len]; exact hr)
      have s2 := sub_at (t := κ) (i := k) (by rw [hκ.len]; exact hk)
      have s3 := sub_at (t := σ) (i := cell A r k) (by rw [hσ.len]; exact lat_lt L hr hk)
      have ra := hρ.lt r hr
      have kb := hκ.lt k hk
      refine ⟨[encs A, enc ρ, enc κ, enc σ, .int n, encl n (fill g ((List.range (k + 1)).map fun c => [ρ.getD r 0, κ.getD c 0, σ.getD (cell A r c) 0])), di r, di k, x8, x9], ?_, _, rfl⟩
      have ef : fill g ((List.range (k + 1)).map fun c => [ρ.getD r 0, κ.getD c 0, σ.getD (cell A r c) 0]) = up (fill g ((List.range k).map fun c => [ρ.getD r 0, κ.getD c 0, σ.getD (cell A r c) 0])) (ρ.getD r 0) (κ.getD k 0) (σ.getD (cell A r k) 0) := by
        rw [List.range_succ, List.map_append, fill_app]; rfl
      rw [ef]
      simp only [List.set_cons_succ, List.set_cons_zero, b__law_moved_2, exs_cons, ex_setT, ev_sub, ev_var, rb_ok, List.getD_cons_succ, List.getD_cons_zero, sub_row L hr, mo_some, sub_cell L hr hk, s3, bnd_at, pth_ix, pth_nm, s1, s2, List.nil_append, get1 ra, List.cons_append, get2 ra kb, upd2 ra kb, exs_nil]
  rw [List.length_map, List.length_range] at h1
  refine ⟨x7', ?_⟩
  simp only [b__law_moved_3, exs_cons, ex_for_nm, itr_rng, evs_cons, evs_nil, ev_var, rb_ok, List.getD_cons_succ, List.getD_cons_zero, range_of (show n ≤ 1000 by omega), mo_some]
  rw [h1]
  rfl
theorem v__law_moved (L : Lat n A) (hn : n ≤ 6) (hρ : Pm n ρ) (hκ : Pm n κ) (hσ : Pm n σ) : Gv F__law_moved [encs A, enc ρ, enc κ, enc σ] (encs (mk n (mvG n A ρ κ σ))) := by
  obtain ⟨e', h1, x6, x7, x8, x9, rfl⟩ := for_all (f := fun x e => exs T__law_moved b__law_moved_3 (e.set 6 x)) (xs := (List.range n).map di) (e := [encs A, enc ρ, enc κ, enc σ, .int n, encl n (fun _ _ => 0), .none, .none, .none, .none])
    (fun k e => ∃ x6 x7 x8 x9, e = [encs A, enc ρ, enc κ, enc σ, .int n, encl n (fill (fun _ _ => 0) ((List.range k).flatMap (mvR n A ρ κ σ))), x6, x7, x8, x9]) ⟨_, _, _, _, rfl⟩ fun k x e hx hi => by
      obtain ⟨x6, x7, x8, x9, rfl⟩ := hi
      obtain ⟨hk, rfl⟩ : k < n ∧ x = di k := by
        obtain ⟨z1, z2⟩ := List.getElem?_eq_some_iff.mp hx
        exact ⟨by simpa using z1, by simpa using z2.symm⟩
      obtain ⟨x7', h2⟩ := v__law_moved_3 L hn hρ hκ hσ (g := fill (fun _ _ => 0) ((List.range k).flatMap (mvR n A ρ κ σ))) hk (x7 := x7) (x8 := x8) (x9 := x9)
      refine ⟨_, h2, di k, x7', x8, x9, ?_⟩
      rw [List.range_succ, List.flatMap_append, fill_app]
      simp
  rw [List.length_map, List.length_range] at h1
  have hl := L.2
  have le : apB1 .len (encs A) = some (.int n) := by rw [show encs A = .tuple (A.map enc) from rfl, len_t, List.length_map, hl]
  have e1 : ∀ x5 x6 x7 x8 x9, ev T__law_moved b__law_moved_1 [encs A, enc ρ, enc κ, enc σ, .int n, x5, x6, x7, x8, x9] = .ok (encl n (fun _ _ => 0), [encs A, enc ρ, enc κ, enc σ, .int n, x5, x6, x7, x8, x9]) := fun x5 x6 x7 x8 x9 => by
    unfold b__law_moved_1
    have ck : ∀ l : List Dt, chkT (.ls .sh) (.list l) = some (.list l) := fun _ => rfl
    rw [lc0 (fun _ => rowl n (fun _ _ => 0) 0) (xs := (List.range n).map di) (by simp [range_of (show n ≤ 1000 by omega)]) (by rw [List.length_map, List.length_range]; exact le_sz (by omega)) fun x hx => ?_]
    · rw [List.map_map]; rfl
    · simp [show 1 ≤ sizeLine from le_sz (by omega), zeros (show n ≤ 1000 by omega), ck, rowl]
  have e4 : ∀ x6 x7 x8 x9, ev T__law_moved b__law_moved_4 [encs A, enc ρ, enc κ, enc σ, .int n, encl n (mvG n A ρ κ σ), x6, x7, x8, x9] = .ok (.list ((mk n (mvG n A ρ κ σ)).map enc), [encs A, enc ρ, enc κ, enc σ, .int n, encl n (mvG n A ρ κ σ), x6, x7, x8, x9]) := fun x6 x7 x8 x9 => by
    unfold b__law_moved_4
    rw [lc0 tupl (xs := (List.range n).map fun r => rowl n (mvG n A ρ κ σ) r) (by simp [encl]) (by rw [List.length_map, List.length_range]; exact le_sz (by omega)) fun x hx => ?_, tups_encl]
    obtain ⟨r, _, rfl⟩ := List.mem_map.mp hx
    simp [tup_of, rowl, tupl]
  refine run_gv rfl (e' := [encs A, enc ρ, enc κ, enc σ, .int n, encl n (mvG n A ρ κ σ), x6, x7, x8, x9]) ?_
  simp only [b__law_moved, exs_cons, ex_set, ev_b1, ev_var, List.cons_append, List.nil_append, List.replicate, rb_ok, List.getD_cons_succ, List.getD_cons_zero, le, mo_some, List.set_cons_succ, List.set_cons_zero, e1, ex_for_nm, itr_rng, evs_cons, evs_nil, range_of (show n ≤ 1000 by omega)]
  rw [h1]
  have e4' := e4 x6 x7 x8 x9
  have eg : fill (fun _ _ => 0) ((List.range n).flatMap (mvR n A ρ κ σ)) = mvG n A ρ κ σ := rfl
  rw [eg]
  simp only [rb_ok, exs_cons, ex_ret, ev_b1, e4', tup_of, mo_some, mp_at]
  rfl
end
end VL


set_option Elab.async false
set_option linter.all false
set_option maxRecDepth 100000
namespace VL
open PySem PL
/-! ### two lines of a latin square, switched along a ring -/
structure LG (n : Nat) (g : Nat → Nat → Nat) : Prop where
  lt : ∀ r c, r < n → c < n → g r c < n
  row : ∀ r c d, r < n → c < n → d < n → g r c = g r d → c = d
  col : ∀ r t c, r < n → t < n → c < n → g r c = g t c → r = t
theorem lg_sur {n : Nat} {g : Nat → Nat → Nat} (L : LG n g) {r v : Nat} (hr : r < n) (hv : v < n) : ∃ c, c < n ∧ g r c = v := by
  have nd := nodup_map (n := n) (f := g r) fun c d hc hd e => L.row r c d hr hc hd e
  have h := all_in nd (by simp) (fun x hx => by
    obtain ⟨c, hc, rfl⟩ := List.mem_map.mp hx
    exact L.lt r c hr (List.mem_range.mp hc)) hv
  obtain ⟨c, hc, e⟩ := List.mem_map.mp h
  exact ⟨c, List.mem_range.mp hc, e⟩
/-- the lines i and j exchanged in these columns -/
def sw (G : Nat → Nat → Nat) (i j : Nat) (hs : List Nat) : Nat → Nat → Nat := fun a b => if b ∈ hs then (if a = i then G j b else if a = j then G i b else G a b) else G a b
def Ch (G : Nat → Nat → Nat) (i j : Nat) : List Nat → Prop
  | h :: h' :: t => G i h = G j h' ∧ Ch G i j (h' :: t)
  | _ => True
section
variable {n i j : Nat} {G : Nat → Nat → Nat}
theorem ch_succ : ∀ {t : List Nat} {h b : Nat}, Ch G i j (h :: t) → b ∈ t → ∃ b' ∈ h :: t, G i b' = G j b
  | h' :: t, h, b, c, hb => by
    obtain ⟨c1, c2⟩ := c
    rcases List.mem_cons.mp hb with rfl | hb
    · exact ⟨h, List.mem_cons_self, c1⟩
    · obtain ⟨b', m, e⟩ := ch_succ c2 hb
      exact ⟨b', List.mem_cons_of_mem _ m, e⟩
theorem ch_pred : ∀ {t : List Nat} {h b : Nat}, Ch G i j (h :: t) → b ∈ h :: t → (∃ u, h :: t = u ++ [b]) ∨ ∃ b' ∈ t, G i b = G j b'
  | [], h, b, _, hb => by
    rw [List.mem_singleton.mp hb]; exact .inl ⟨[], rfl⟩
  | h' :: t, h, b, c, hb => by
    obtain ⟨c1, c2⟩ := c
    rcases List.mem_cons.mp hb with rfl | hb
    · exact .inr ⟨h', List.mem_cons_self, c1⟩
    · rcases ch_pred c2 hb with ⟨u, e⟩ | ⟨b', m, e⟩
      · exact .inl ⟨h :: u, by rw [e]; rfl⟩
      · exact .inr ⟨b', List.mem_cons_of_mem _ m, e⟩
/-- columns closed both ways may be exchanged -/
theorem sw_lat (L : LG n G) (hi : i < n) (hj : j < n) (hij : i ≠ j) {hs : List Nat} (hl : ∀ b ∈ hs, b < n) (s1 : ∀ b ∈ hs, ∃ b' ∈ hs, G i b' = G j b) (s2 : ∀ b ∈ hs, ∃ b' ∈ hs, G j b' = G i b) : LG n (sw G i j hs) := by
  have out1 : ∀ b d, b ∈ hs → d < n → d ∉ hs → G j b ≠ G i d := fun b d hb hd hn e => by
    obtain ⟨b', m, e'⟩ := s1 b hb
    have := L.row i b' d hi (hl b' m) hd (e'.trans e)
    rw [this] at m; exact hn m
  have out2 : ∀ b d, b ∈ hs → d < n → d ∉ hs → G i b ≠ G j d := fun b d hb hd hn e => by
    obtain ⟨b', m, e'⟩ := s2 b hb
    have := L.row j b' d hj (hl b' m) hd (e'.trans e)
    rw [this] at m; exact hn m
  refine ⟨fun r c hr hc => ?_, fun r c d hr hc hd e => ?_, fun r t c hr ht hc e => ?_⟩
  · unfold sw
    split
    · split
      · exact L.lt _ _ hj hc
      · split
        · exact L.lt _ _ hi hc
        · exact L.lt _ _ hr hc
    · exact L.lt _ _ hr hc
  · unfold sw at e
    by_cases h1 : c ∈ hs <;> by_cases h2 : d ∈ hs <;> simp only [h1, h2, if_true, if_false] at e
    · by_cases a1 : r = i
      · simp only [a1, if_true] at e; exact L.row j c d hj hc hd e
      · by_cases a2 : r = j
        · simp only [a1, a2, if_true, if_false] at e
          rw [if_neg (fun z => hij z.symm), if_neg (fun z => hij z.symm)] at e
          exact L.row i c d hi hc hd e
        · simp only [a1, a2, if_false] at e; exact L.row r c d hr hc hd e
    · by_cases a1 : r = i
      · simp only [a1, if_true] at e; exact absurd e (out1 c d h1 hd h2)
      · by_cases a2 : r = j
        · subst a2
          simp only [a1, if_true, if_false] at e; exact absurd e (out2 c d h1 hd h2)
        · simp only [a1, a2, if_false] at e; exact L.row r c d hr hc hd e
    · by_cases a1 : r = i
      · simp only [a1, if_true] at e; exact absurd e.symm (out1 d c h2 hc h1)
      · by_cases a2 : r = j
        · subst a2
          simp only [a1, if_true, if_false] at e; exact absurd e.symm (out2 d c h2 hc h1)
        · simp only [a1, a2, if_false] at e; exact L.row r c d hr hc hd e
    · exact L.row r c d hr hc hd e
  · unfold sw at e
    by_cases h1 : c ∈ hs
    · simp only [h1, if_true] at e
      by_cases a1 : r = i
      · by_cases b1 : t = i
        · rw [a1, b1]
        · by_cases b2 : t = j
          · rw [if_pos a1, if_neg b1, if_pos b2] at e; exact absurd (L.col j i c hj hi hc e).symm hij
          · rw [if_pos a1, if_neg b1, if_neg b2] at e; exact absurd (L.col j t c hj ht hc e).symm b2
      · by_cases a2 : r = j
        · by_cases b1 : t = i
          · rw [if_neg a1, if_pos a2, if_pos b1] at e; exact absurd (L.col i j c hi hj hc e) hij
          · by_cases b2 : t = j
            · rw [a2, b2]
            · rw [if_neg a1, if_pos a2, if_neg b1, if_neg b2] at e; exact absurd (L.col i t c hi ht hc e).symm b1
        · by_cases b1 : t = i
          · rw [if_neg a1, if_neg a2, if_pos b1] at e; exact absurd (L.col r j c hr hj hc e) a2
          · by_cases b2 : t = j
            · rw [if_neg a1, if_neg a2, if_neg b1, if_pos b2] at e; exact absurd (L.col r i c hr hi hc e) a1
            · rw [if_neg a1, if_neg a2, if_neg b1, if_neg b2] at e; exact L.col r t c hr ht hc e
    · simp only [h1, if_false] at e
      exact L.col r t c hr ht hc e
/-- when the ring is closed -/
theorem sw_done (L : LG n G) (hi : i < n) (hj : j < n) (hij : i ≠ j) {h : Nat} {hs : List Nat} (nd : (h :: hs).Nodup) (hl : ∀ b ∈ h :: hs, b < n) (c : Ch G i j (h :: hs)) (no : ∀ c, c < n → c ≠ h → sw G i j (h :: hs) i c ≠ G j h) : LG n (sw G i j (h :: hs)) := by
  have hh := hl h List.mem_cons_self
  obtain ⟨z, hz, ez⟩ := lg_sur L hi (L.lt j h hj hh)
  have zm : z ∈ h :: hs := by
    refine Classical.byContradiction fun q => ?_
    have zne : z ≠ h := fun w => q (by rw [w]; exact List.mem_cons_self)
    refine no z hz zne ?_
    unfold sw
    rw [if_neg q]
    exact ez
  have hnot : h ∉ hs := (List.nodup_cons.mp nd).1
  have zlast : ∃ u, h :: hs = u ++ [z] := by
    rcases ch_pred c zm with w | ⟨b', m, e⟩
    · exact w
    · have := L.row j b' h hj (hl b' (List.mem_cons_of_mem _ m)) hh (e.symm.trans ez)
      rw [this] at m
      exact absurd m hnot
  refine sw_lat L hi hj hij hl (fun b hb => ?_) (fun b hb => ?_)
  · rcases List.mem_cons.mp hb with rfl | hb
    · exact ⟨z, zm, ez⟩
    · exact ch_succ c hb
  · rcases ch_pred c hb with ⟨u, e⟩ | ⟨b', m, e⟩
    · obtain ⟨u', e'⟩ := zlast
      have : b = z := by
        rw [e] at e'
        have := congrArg List.getLast? e'
        simpa using this
      rw [this]
      exact ⟨h, List.mem_cons_self, ez.symm⟩
    · exact ⟨b', List.mem_cons_of_mem _ m, e.symm⟩
theorem sw_nil : sw G i j [] = G := by
  funext a b
  unfold sw
  simp
theorem sw_step (hij : i ≠ j) {h : Nat} {hs : List Nat} (hn : h ∉ hs) : up (up (sw G i j hs) i h (sw G i j hs j h)) j h (sw G i j hs i h) = sw G i j (h :: hs) := by
  funext a b
  unfold up sw
  by_cases hb : b = h
  · subst hb
    by_cases a1 : a = i
    · subst a1
      simp [hn, hij]
    · by_cases a2 : a = j
      · subst a2; simp [hn, a1]
      · simp [hn, a1, a2]
  · simp [hb]
end
end VL


set_option Elab.async false
set_option linter.all false
set_option maxRecDepth 100000
namespace VL
open PySem PL
theorem whl_fuel : 100 < whlFuel := by unfold whlFuel; decide
theorem zi_di (l : List Nat) : l.map di = (zi l).map .int := by unfold zi; rw [List.map_map]; rfl
theorem ne_nil (l : List Nat) : opC .NotEq (.list (l.map di)) (.list []) = some (!l.isEmpty) := by
  have e : opC .NotEq (.list (l.map di)) (.list []) = (eqD (.list (l.map di)) (.list [])).map (!·) := rfl
  have h : eqD (.list (l.map di)) (.list []) = some l.isEmpty := by
    unfold eqD
    rw [zi_di, if_pos ⟨shaped_ints _, rfl⟩]
    cases l with
    | nil => rfl
    | cons x l => rfl
  rw [e, h]; rfl
theorem ne_di (i j : Nat) : opC .NotEq (di i) (di j) = some (!decide (i = j)) := by
  show opC .NotEq (.int i) (.int j) = _
  rw [opC_ne_int]
  congr 2
  by_cases h : i = j
  · subst h; simp
  · have : ¬ (i : Int) = (j : Int) := by omega
    simp [h, this]
theorem eq_di (i j : Nat) : opC .Eq (di i) (di j) = some (decide (i = j)) := by
  show opC .Eq (.int i) (.int j) = _
  rw [opC_eq_int]
  congr 1
  by_cases h : i = j
  · subst h; simp
  · have : ¬ (i : Int) = (j : Int) := by omega
    simp [h, this]
theorem mk_lg {n : Nat} {g : Nat → Nat → Nat} (L : LG n g) : Lat n (mk n g) := mk_lat L.lt L.row L.col
theorem lg_start {n : Nat} (hn : 1 ≤ n) : LG n (fun r c => (r + c) % n) := by
  refine ⟨fun r c _ _ => Nat.mod_lt _ (by omega), fun r c d hr hc hd e => ?_, fun r t c hr ht hc e => ?_⟩
  · have h1 : (r + c) % n = (r + d) % n := e
    rcases Nat.lt_or_ge (r + c) n with a | a <;> rcases Nat.lt_or_ge (r + d) n with b | b
    · rw [Nat.mod_eq_of_lt a, Nat.mod_eq_of_lt b] at h1; omega
    · rw [Nat.mod_eq_of_lt a, Nat.mod_eq_sub_mod b, Nat.mod_eq_of_lt (by omega)] at h1; omega
    · rw [Nat.mod_eq_of_lt b, Nat.mod_eq_sub_mod a, Nat.mod_eq_of_lt (by omega)] at h1; omega
    · rw [Nat.mod_eq_sub_mod a, Nat.mod_eq_sub_mod b, Nat.mod_eq_of_lt (by omega), Nat.mod_eq_of_lt (by omega)] at h1; omega
  · have h1 : (r + c) % n = (t + c) % n := e
    rcases Nat.lt_or_ge (r + c) n with a | a <;> rcases Nat.lt_or_ge (t + c) n with b | b
    · rw [Nat.mod_eq_of_lt a, Nat.mod_eq_of_lt b] at h1; omega
    · rw [Nat.mod_eq_of_lt a, Nat.mod_eq_sub_mod b, Nat.mod_eq_of_lt (by omega)] at h1; omega
    · rw [Nat.mod_eq_of_lt b, Nat.mod_eq_sub_mod a, Nat.mod_eq_of_lt (by omega)] at h1; omega
    · rw [Nat.mod_eq_sub_mod a, Nat.mod_eq_sub_mod b, Nat.mod_eq_of_lt (by omega), Nat.mod_eq_of_lt (by omega)] at h1; omega
def nextC (n : Nat) (g : Nat → Nat → Nat) (i h : Nat) : List Nat := (List.range n).filter fun c => !decide (c = h) && decide (g i c = g i h)
theorem v__law_square_4 {n i h : Nat} {g : Nat → Nat → Nat} (hn : n ≤ 6) (hi : i < n) (hh : h < n) {x0 x1 x4 x6 x8 x9 x10 x11 x12 : Dt} :
    ev T__law_square b__law_square_4 [x0, x1, .int n, encl n g, x4, di i, x6, di h, x8, x9, x10, x11, x12] = .ok (.list ((nextC n g i h).map di), [x0, x1, .int n, encl n g, x4, di i, x6, di h, x8, x9, x10, x11, x12]) := by
  unfold b__law_square_4
  rw [lc1 (fun x => match x with | .int c => if (!decide (c.toNat = h) && decide (g i c.toNat = g i h)) = true then some (.int c) else none | _ => none) (xs := (List.range n).map di) (by simp [range_of (show n ≤ 1000 by omega)]) (by rw [List.length_map, List.length_range]; exact le_sz (by omega)) fun x hx => ?_]
  · rw [fmG (p := fun c => !decide (c = h) && decide (g i c = g i h)) (k := di) fun c hc => by
      simp only [di, Int.toNat_natCast]]
    rfl
  · obtain ⟨c, hc, rfl⟩ := List.mem_map.mp hx
    have hc := List.mem_range.mp hc
    have s1 := sub_encl (g := g) hi
    have s2 := sub_rowl (r := i) (g := g) hc
    have s3 := sub_rowl (r := i) (g := g) hh
    simp only [List.set_cons_succ, List.set_cons_zero, cnd_some, tst_and, tsAnd_cons, tsAnd_one, tst_cmp, ev_var, rb_ok, List.getD_cons_succ, List.getD_cons_zero, ne_di, mo_some]
    by_cases e1 : c = h
    · simp [e1, di]
    · by_cases e2 : g i c = g i h
      · simp [e1, e2, s1, s2, s3, eq_di]
        simp [di, e1, e2]
      · simp [e1, e2, s1, s2, s3, eq_di]
        simp [di, e1, e2]
theorem v__law_square_whl {n i j : Nat} {G : Nat → Nat → Nat} (L : LG n G) (hn : n ≤ 6) (hi : i < n) (hj : j < n) {l : List Nat} (hl : l = [] ∨ ∃ h, l = [h] ∧ h < n ∧ i ≠ j) {x0 x1 x4 x7 x9 x10 x11 x12 : Dt} :
    ∃ e', whlLoop (tst T__law_square b__law_square_3) (exs T__law_square b__law_square_5) whlFuel [x0, x1, .int n, encl n G, x4, di i, di j, x7, .list (l.map di), x9, x10, x11, x12] = .ok (.nx, e') ∧ ∃ g x7 x8, LG n g ∧ e' = [x0, x1, .int n, encl n g, x4, di i, di j, x7, x8, x9, x10, x11, x12] := by
  refine whl_lt (fun m e => ∃ hs l x7, e = [x0, x1, .int n, encl n (sw G i j hs), x4, di i, di j, x7, .list (l.map di), x9, x10, x11, x12] ∧ ((l = [] ∧ LG n (sw G i j hs)) ∨ ∃ h t, l = h :: t ∧ i ≠ j ∧ (h :: hs).Nodup ∧ (∀ b ∈ h :: hs, b < n) ∧ Ch G i j (h :: hs) ∧ m + hs.length = n)) _ (k := n) ?_ (by have := whl_fuel; omega) fun m e I => ?_
  · refine ⟨[], l, x7, by rw [sw_nil], ?_⟩
    rcases hl with rfl | ⟨h, rfl, hh, hij⟩
    · exact .inl ⟨rfl, by rw [sw_nil]; exact L⟩
    · exact .inr ⟨h, [], rfl, hij, by simp, by simpa using hh, trivial, by simp⟩
  · obtain ⟨hs, l, x7, rfl, I⟩ := I
    have z0 : 0 ≤ sizeLine := Nat.zero_le _
    rcases I with ⟨rfl, LL⟩ | ⟨h, t, rfl, hij, nd, hb, c, hm⟩
    · left
      refine ⟨[x0, x1, .int n, encl n (sw G i j hs), x4, di i, di j, x7, .list (([] : List Nat).map di), x9, x10, x11, x12], ?_, sw G i j hs, x7, _, LL, rfl⟩
      have := ne_nil []
      simp only [List.map_nil, List.isEmpty_nil, Bool.not_true] at this
      simp only [b__law_square_3, tst_cmp, ev_var, rb_ok, List.getD_cons_succ, List.getD_cons_zero, ev_lst, evs_nil, List.length_nil, z0, if_true, mo_some, List.map_nil, this]
    · right
      have hh := hb h List.mem_cons_self
      have hnot := (List.nodup_cons.mp nd).1
      have g1 := get1 (g := sw G i j hs) hi
      have g2 := get2 (g := sw G i j hs) hi hh
      have u2 := upd2 (g := sw G i j hs) (s := sw G i j hs j h) hi hh
      have g3 := get1 (g := up (sw G i j hs) i h (sw G i j hs j h)) hj
      have g4 := get2 (g := up (sw G i j hs) i h (sw G i j hs j h)) hj hh
      have u4 := upd2 (g := up (sw G i j hs) i h (sw G i j hs j h)) (s := sw G i j hs i h) hj hh
      rw [sw_step hij hnot] at u4
      have s1 := sub_encl (g := sw G i j hs) hi
      have s2 := sub_encl (g := sw G i j hs) hj
      have s3 := sub_rowl (r := i) (g := sw G i j hs) hh
      have s4 := sub_rowl (r := j) (g := sw G i j hs) hh
      have ne := ne_nil (h :: t)
      have sh : subD (.list ((h :: t).map di)) (.int 0) = some (di h) := by
        show seqIx _ ((0 : Nat) : Int) = _
        unfold seqIx
        rw [L2.atI_nat (v := di h) rfl]
      have v4 := v__law_square_4 (n := n) (i := i) (h := h) (g := sw G i j (h :: hs)) hn hi hh (x0 := x0) (x1 := x1) (x4 := x4) (x6 := di j) (x8 := .list ((h :: t).map di)) (x9 := x9) (x10 := x10) (x11 := x11) (x12 := x12)
      have two : 2 ≤ sizeLine := le_sz (by omega)
      have swh : sw G i j (h :: hs) i h = G j h := by unfold sw; simp
      have hlen : (h :: hs).length ≤ n := by
        have := nodup_card nd hb
        omega
      refine ⟨[x0, x1, .int n, encl n (sw G i j hs), x4, di i, di j, x7, .list ((h :: t).map di), x9, x10, x11, x12], [x0, x1, .int n, encl n (sw G i j (h :: hs)), x4, di i, di j, di h, .list ((nextC n (sw G i j (h :: hs)) i h).map di), x9, x10, x11, x12], m - 1, ?_, ?_, by simp at hlen; omega, h :: hs, _, _, rfl, ?_⟩
      · simp only [b__law_square_3, tst_cmp, ev_var, rb_ok, List.getD_cons_succ, List.getD_cons_zero, ev_lst, evs_nil, List.length_nil, z0, if_true, mo_some, ne]
        rfl
      · simp only [b__law_square_5, exs_cons, ex_set, ev_sub, ev_var, rb_ok, List.getD_cons_succ, List.getD_cons_zero, ev_int, sh, mo_some, List.set_cons_succ, List.set_cons_zero, ex_setT, ev_tup, evs_cons, evs_nil, s1, s2, s3, s4, List.length_cons, List.length_nil, two, if_true, bnd_tp, tupOf, bnds_cons, bnds_nil, bnd_at, pth_ix, pth_nm, List.nil_append, List.cons_append, g1, g2, u2, g3, g4, u4, v4, ex_frz, exs_nil]
      · cases q : nextC n (sw G i j (h :: hs)) i h with
        | nil =>
          refine .inl ⟨rfl, sw_done L hi hj hij nd hb c fun c hc hne e => ?_⟩
          have : c ∈ nextC n (sw G i j (h :: hs)) i h := by
            unfold nextC
            rw [List.mem_filter]
            refine ⟨List.mem_range.mpr hc, ?_⟩
            rw [swh]
            simp [hne, e]
          rw [q] at this
          cases this
        | cons c' t' =>
          have : c' ∈ nextC n (sw G i j (h :: hs)) i h := by rw [q]; exact List.mem_cons_self
          unfold nextC at this
          rw [List.mem_filter, swh] at this
          obtain ⟨m1, m2⟩ := this
          have hc' := List.mem_range.mp m1
          simp only [Bool.and_eq_true, Bool.not_eq_true', decide_eq_false_iff_not, decide_eq_true_eq] at m2
          obtain ⟨m2, m3⟩ := m2
          have out : c' ∉ h :: hs := fun z => by
            unfold sw at m3
            rw [if_pos z, if_pos rfl] at m3
            exact m2 (L.row j c' h hj hc' hh m3)
          have gi : G i c' = G j h := by
            unfold sw at m3
            rw [if_neg out] at m3
            exact m3
          refine .inr ⟨c', t', rfl, hij, List.nodup_cons.mpr ⟨out, nd⟩, fun b hb' => ?_, ⟨gi, c⟩, by simp at hlen; simp; omega⟩
          rcases List.mem_cons.mp hb' with rfl | hb'
          · exact hc'
          · exact hb b hb'
end VL


set_option Elab.async false
set_option linter.all false
set_option maxRecDepth 100000
namespace VL
open PySem PL
theorem v__law_square_6 {H : Dt} {n : Nat} {G : Nat → Nat → Nat} (h : HI H) (L : LG n G) (h1 : 1 ≤ n) (hn : n ≤ 6) {x1 x4 x5 x6 x7 x8 x9 x10 x11 x12 : Dt} :
    ∃ H' g y5 y6 y7 y8, HI H' ∧ LG n g ∧ exs T__law_square b__law_square_6 [H, x1, .int n, encl n G, x4, x5, x6, x7, x8, x9, x10, x11, x12] = .ok (.nx, [H', x1, .int n, encl n g, x4, y5, y6, y7, y8, x9, x10, x11, x12]) := by
  obtain ⟨H1, k1, i1, hk1, s1⟩ := v__law_draw (many := (n : Int)) h (by omega) (by omega)
  obtain ⟨i, rfl, hi⟩ := nat_of hk1
  obtain ⟨H2, k2, i2, hk2, s2⟩ := v__law_draw (many := (n : Int)) i1 (by omega) (by omega)
  obtain ⟨j, rfl, hj⟩ := nat_of hk2
  obtain ⟨H3, k3, i3, hk3, s3⟩ := v__law_draw (many := (n : Int)) i2 (by omega) (by omega)
  obtain ⟨c, rfl, hc⟩ := nat_of hk3
  obtain ⟨e', w, g, x7', x8', LL, rfl⟩ := v__law_square_whl L hn hi hj (l := if i ≠ j then [c] else []) (by
    by_cases z : i = j
    · left; simp [z]
    · right; exact ⟨c, by simp [z], hc, z⟩) (x0 := H3) (x1 := x1) (x4 := x4) (x7 := di c) (x9 := x9) (x10 := x10) (x11 := x11) (x12 := x12)
  refine ⟨H3, g, di i, di j, x7', x8', i3, LL, ?_⟩
  have z0 : 0 ≤ sizeLine := Nat.zero_le _
  have z1 : 1 ≤ sizeLine := le_sz (by omega)
  have z3 : 3 ≤ sizeLine := le_sz (by omega)
  have hij := ne_di i j
  have ei : (PyData.int (i : Int)) = di i := rfl
  have ej : (PyData.int (j : Int)) = di j := rfl
  have ec : (PyData.int (c : Int)) = di c := rfl
  rw [ei] at s1
  rw [ej] at s2
  rw [ec] at s3
  simp only [b__law_square_6, exs_cons, ex_setT, ev_tup, evs_cons, evs_nil, kc__law_square_16, evsA_ref, evsA_own, evsA_nil, ev_var, rb_ok, List.getD_cons_succ, List.getD_cons_zero, vofR_of s1, vofR_of s2, vofR_of s3, outs_ref, outs_own, outs_nil, sto_cons, sto_nil, List.set_cons_succ, List.set_cons_zero, List.length_cons, List.length_nil, z3, if_true, mo_some, bnd_tp, tupOf, bnds_cons, bnd_nm, bnds_nil, ex_set, ev_ife, tst_cmp, hij]
  by_cases z : i = j
  · rw [if_neg (by simp [z])] at w
    simp only [z, decide_true, Bool.not_true, ev_frz, ev_lst, evs_nil, rb_ok, List.length_nil, z0, if_true, mo_some, List.set_cons_succ, List.set_cons_zero, ex_whl]
    simp only [z, List.map_nil] at w
    rw [exs_cons, ex_whl, w]
    rfl
  · rw [if_pos (by simpa using z)] at w
    simp only [z, decide_false, Bool.not_false, ev_frz, ev_lst, evs_cons, evs_nil, ev_var, rb_ok, List.getD_cons_succ, List.getD_cons_zero, List.length_cons, List.length_nil, z1, if_true, mo_some, List.set_cons_succ, List.set_cons_zero, ex_whl]
    simp only [List.map_cons, List.map_nil] at w
    rw [exs_cons, ex_whl, w]
    rfl
theorem v__law_square {H : Dt} {most : Nat} (h : HI H) (hm1 : 1 ≤ most) (hm : most ≤ 6) : ∃ (H' : Dt) (n : Nat) (A : List (List Nat)), HI H' ∧ 1 ≤ n ∧ n ≤ most ∧ Lat n A ∧ F__law_square.sem [H, .int most] = .ok (encs A, [H', .int most]) := by
  obtain ⟨H1, k1, i1, hk1, s1⟩ := v__law_draw (many := (most : Int)) h (by omega) (by omega)
  obtain ⟨m, rfl, hm'⟩ := nat_of hk1
  generalize hn : 1 + m = n
  have cn : 1 + (m : Int) = (n : Int) := by omega
  have n1 : 1 ≤ n := by omega
  have n6 : n ≤ 6 := by omega
  obtain ⟨H2, k2, i2, hk2, s2⟩ := v__law_draw (many := 6) i1 (by omega) (by omega)
  obtain ⟨steps, rfl, hst⟩ := nat_of (n := 6) hk2
  obtain ⟨e', w, H3, g, x4, x5, x6, x7, x8, i3, LL, rfl⟩ := for_all (f := fun x e => exs T__law_square b__law_square_6 (e.set 4 x)) (xs := (List.range steps).map di) (e := [H2, .int most, .int n, encl n (fun r c => (r + c) % n), .none, .none, .none, .none, .none, .none, .none, .none, .none])
    (fun k e => ∃ H' g x4 x5 x6 x7 x8, HI H' ∧ LG n g ∧ e = [H', .int most, .int n, encl n g, x4, x5, x6, x7, x8, .none, .none, .none, .none]) ⟨H2, _, _, _, _, _, _, i2, lg_start n1, rfl⟩ fun k x e hx I => by
      obtain ⟨H', g, x4, x5, x6, x7, x8, hi', LL, rfl⟩ := I
      obtain ⟨H2, g2, y5, y6, y7, y8, j2, L2', w2⟩ := v__law_square_6 hi' LL n1 n6 (x1 := .int most) (x4 := x) (x5 := x5) (x6 := x6) (x7 := x7) (x8 := x8) (x9 := .none) (x10 := .none) (x11 := .none) (x12 := .none)
      exact ⟨_, w2, H2, g2, x, y5, y6, y7, y8, j2, L2', rfl⟩
  obtain ⟨H4, ρ, i4, pρ, s4⟩ := v__law_names i3 n6
  obtain ⟨H5, κ, i5, pκ, s5⟩ := v__law_names i4 n6
  obtain ⟨H6, σ, i6, pσ, s6⟩ := v__law_names i5 n6
  have A := mk_lg LL
  refine ⟨H6, n, mk n (mvG n (mk n g) ρ κ σ), i6, n1, by omega, moved_lat A (pm_of pρ) (pm_of pκ) (pm_of pσ), ?_⟩
  have wm : ∀ e, vof F__law_moved [encs (mk n g), enc ρ, enc κ, enc σ] e = .ok (encs (mk n (mvG n (mk n g) ρ κ σ)), e) := fun e => vof_gv (v__law_moved A n6 (pm_of pρ) (pm_of pκ) (pm_of pσ))
  have e1 : ∀ x0 x3 x4 x5 x6 x7 x8 x9 r x11 x12, r < n → ev T__law_square b__law_square_1 [x0, .int most, .int n, x3, x4, x5, x6, x7, x8, x9, di r, x11, x12] = .ok (rowl n (fun r c => (r + c) % n) r, [x0, .int most, .int n, x3, x4, x5, x6, x7, x8, x9, di r, x11, x12]) := fun x0 x3 x4 x5 x6 x7 x8 x9 r x11 x12 hr => by
    unfold b__law_square_1
    rw [lc0 (fun x => match x with | .int c => di ((r + c.toNat) % n) | _ => .none) (xs := (List.range n).map di) (by simp [range_of (show n ≤ 1000 by omega)]) (by rw [List.length_map, List.length_range]; exact le_sz (by omega)) fun x hx => ?_]
    · rw [List.map_map]; rfl
    · obtain ⟨c, _, rfl⟩ := List.mem_map.mp hx
      have hz : (n : Int) ≠ 0 := by omega
      have em : ((r : Int) + (c : Int)).fmod (n : Int) = (((r + c) % n : Nat) : Int) := by
        rw [Int.fmod_eq_emod_of_nonneg _ (by omega)]
        push_cast
        rfl
      simp only [List.set_cons_succ, List.set_cons_zero, ev_bop, ev_b1, ev_var, rb_ok, List.getD_cons_succ, List.getD_cons_zero]
      simp only [di, add_i, Option.bind_some, chk_i, mo_some, rb_ok, int_i, List.getD_cons_succ, List.getD_cons_zero, mod_i _ hz, em, Int.toNat_natCast]
  have e2 : ∀ x0 x3 x4 x5 x6 x7 x8 x9 x10 x11 x12, ev T__law_square b__law_square_2 [x0, .int most, .int n, x3, x4, x5, x6, x7, x8, x9, x10, x11, x12] = .ok (encl n (fun r c => (r + c) % n), [x0, .int most, .int n, x3, x4, x5, x6, x7, x8, x9, x10, x11, x12]) := fun x0 x3 x4 x5 x6 x7 x8 x9 x10 x11 x12 => by
    unfold b__law_square_2
    rw [lc0 (fun x => match x with | .int r => rowl n (fun r c => (r + c) % n) r.toNat | _ => .none) (xs := (List.range n).map di) (by simp [range_of (show n ≤ 1000 by omega)]) (by rw [List.length_map, List.length_range]; exact le_sz (by omega)) fun x hx => ?_]
    · rw [List.map_map]; rfl
    · obtain ⟨r, hr, rfl⟩ := List.mem_map.mp hx
      simp only [List.set_cons_succ, List.set_cons_zero, ev_frz, e1 x0 x3 x4 x5 x6 x7 x8 x9 r x11 x12 (List.mem_range.mp hr)]
      rfl
  have e7 : ∀ x4 x5 x6 x7 x8 x9 x10 x11 x12, ev T__law_square b__law_square_7 [H3, .int most, .int n, encl n g, x4, x5, x6, x7, x8, x9, x10, x11, x12] = .ok (.list ((mk n g).map enc), [H3, .int most, .int n, encl n g, x4, x5, x6, x7, x8, x9, x10, x11, x12]) := fun x4 x5 x6 x7 x8 x9 x10 x11 x12 => by
    unfold b__law_square_7
    rw [lc0 tupl (xs := (List.range n).map fun r => rowl n g r) (by simp [encl]) (by rw [List.length_map, List.length_range]; exact le_sz (by omega)) fun x hx => ?_, tups_encl]
    obtain ⟨r, _, rfl⟩ := List.mem_map.mp hx
    simp [tup_of, rowl, tupl]
  have eT : PyData.tuple ((mk n g).map enc) = encs (mk n g) := rfl
  refine run_out rfl (e' := [H6, .int most, .int n, encl n g, x4, x5, x6, x7, x8, encs (mk n g), .none, .none, .none]) ?_
  have rs : rangeOf [.int (steps : Int)] = some ((List.range steps).map di) := range_of (by omega)
  simp only [b__law_square, exs_cons, ex_set, ev_bop, ev_int, kc__law_square_16, evsA_ref, evsA_own, evsA_nil, ev_var, rb_ok, List.cons_append, List.nil_append, List.replicate, List.getD_cons_succ, List.getD_cons_zero, vofR_of s1, outs_ref, outs_own, outs_nil, sto_cons, sto_nil, List.set_cons_succ, List.set_cons_zero, add_i, Option.bind_some, chk_i, mo_some, cn, ev_frz, e2, ex_for_nm, itr_rng, evs_cons, evs_nil, vofR_of s2, rs]
  rw [w]
  simp only [rb_ok, exs_cons, ex_set, ev_b1, e7, tup_of, mo_some, List.set_cons_succ, List.set_cons_zero, eT, ex_ret, kc__law_square_19, kc__law_square_18, evsA_own, evsA_ref, evsA_nil, ev_var, List.getD_cons_succ, List.getD_cons_zero, vofR_of s4, vofR_of s5, vofR_of s6, outs_ref, outs_own, outs_nil, sto_cons, sto_nil, wm, mp_at, ex_frz, exs_nil]
end VL


set_option Elab.async false
set_option linter.all false
set_option maxRecDepth 100000
namespace VL
open PySem PL
theorem wd_exc {nm : Str} {FN : Str → List Str} {ET : List Str} {W : Wd} {y : Str} {ys : List Dt} {d : Dt} (h : wexc W FN ET y ys = some d) : ∃ outs, (wdFn nm FN ET W).sem [.tuple (.str y :: ys)] = .ok (d, outs) := ⟨_, by
  show oR (wexc W FN ET y ys) = _
  rw [h]
  rfl⟩
@[simp] theorem wret_ok (d : Dt) (outs : List Dt) (e : Ev) : wret (.ok (d, outs)) e = .ok (d, e) := rfl
theorem ev_wrd_exc {T : List Fn} {j : Nat} {x : Str} {a : E} {sc : Scope} {lp q p : Pos} {e : Ev} {F : Fn} {y : Str} {ys : List Dt} {d : Dt} (h : T[j]? = some F) (ha : ev T a e = .exc y ys) (hw : ∃ outs, F.sem [.tuple (.str y :: ys)] = .ok (d, outs)) : ev T (.wrd j x a sc lp q p) e = .ok (d, e) := by
  obtain ⟨outs, hw⟩ := hw
  show (match T[j]? with
      | some f => (match ev T a e with
        | .ok (d, _) => wret (f.sem [.tuple [.none, d]]) e
        | .exc y ys => wret (f.sem [.tuple (.str y :: ys)]) e
        | .err => .err)
      | none => .err) = _
  rw [h]
  simp only [ha, hw]
  rfl
/-! ### the hand -/
theorem v__law_hand (ns : List Int) : ∃ H, HI H ∧ Gv F__law_hand [.list (ns.map .int)] H := by
  have hs : slcD (.list (ns.map .int)) none (some 63) = some (.list ((ns.take (min 63 ns.length)).map .int)) := by
    show some (PyData.list (cutD (ns.map .int) none (some ((63 : Nat) : Int)))) = _
    unfold cutD
    rw [HT.sIx_none, HT.sIx_nat, List.length_map, List.drop_zero, Nat.sub_zero, List.map_take]
  have hl : (ns.take (min 63 ns.length)).length ≤ 63 := by rw [List.length_take]; omega
  generalize ns.take (min 63 ns.length) = ms at hs hl
  have hc : ∀ l : List Int, chkT (.ls .sh) (.list (l.map .int)) = some (.list (l.map .int)) := fun _ => rfl
  let f : Int → Int := fun i => if i < 0 then -i else i
  have h1 : ∀ x1 x2, ev T__law_hand b__law_hand_1 [.list (ns.map .int), x1, x2] = .ok (.list ((ms.map f).map .int), [.list (ns.map .int), x1, x2]) := fun x1 x2 => by
    unfold b__law_hand_1
    rw [lc0 (fun x => match x with | .int i => .int (f i) | _ => .none) (xs := ms.map .int) (by simp [intO, hs, hc]) (by rw [List.length_map]; exact le_sz (by omega)) fun x hx => ?_]
    · rw [List.map_map, List.map_map]; rfl
    · obtain ⟨i, hi, rfl⟩ := List.mem_map.mp hx
      have ha : apB1 .abs (.int i) = some (.int (f i)) := rfl
      simp [ha]
  have m1 : small 7 = true := by decide
  have z5 : 5 ≤ sizeLine := le_sz (by omega)
  refine ⟨hnd (ms.map f) 0 0 (61 + 7 * ((ms.map f).length : Int)) 0, ⟨_, 0, _, _, _, rfl⟩, ?_⟩
  refine run_gv rfl (e' := [.list (ns.map .int), .list ((ms.map f).map .int), .none]) ?_
  simp only [b__law_hand, exs_cons, ex_set, List.replicate, List.cons_append, List.nil_append, h1, rb_ok]
  simp [mul_l _ m1, z5, hnd]
end VL


set_option Elab.async false
set_option linter.all false
set_option maxRecDepth 100000
namespace VL
open PySem PL
theorem slc_take' {rs : List (List Nat)} {k : Nat} (h : k ≤ rs.length) : slcD (encs rs) none (some (k : Int)) = some (encs (rs.take k)) := by
  show some (PyData.tuple (cutD (rs.map enc) none (some (k : Int)))) = _
  unfold cutD encs
  rw [HT.sIx_none, HT.sIx_nat, List.length_map, Nat.min_eq_left h, List.drop_zero, Nat.sub_zero, List.map_take]
theorem slc_drop' {rs : List (List Nat)} {k : Nat} (h : k ≤ rs.length) : slcD (encs rs) (some (k : Int)) none = some (encs (rs.drop k)) := by
  show some (PyData.tuple (cutD (rs.map enc) (some (k : Int)) none)) = _
  unfold cutD encs
  rw [HT.sIx_none, HT.sIx_nat, List.length_map, Nat.min_eq_left h, List.map_drop]
  rw [List.take_of_length_le (by simp)]
theorem cat_encs {a b : List (List Nat)} (h : a.length + b.length ≤ 1000) : opB .Add (encs a) (encs b) = some (encs (a ++ b)) := by
  unfold encs
  rw [cat_t _ _ (by simp; omega), List.map_append]
theorem areAll_len {k : Nat} {r : List Nat} (h : r.length ≠ k) : areAll k (enc r) = false := by
  show (decide (((zi r).map PyData.int).length = k) && _) = false
  rw [List.length_map, zi_len]
  simp [h]
theorem sqB_len {rows : List (List Nat)} {r : List Nat} (hr : r ∈ rows) (h : r.length ≠ rows.length) : squareB (encs rows) = false := by
  have e : encs rows = .tuple (rows.map enc) := rfl
  have a : (rows.map enc).all (areAll (rows.map enc).length) = false := by
    rw [List.all_eq_false]
    exact ⟨enc r, List.mem_map.mpr ⟨r, hr, rfl⟩, by rw [areAll_len (by rw [List.length_map]; exact h)]; simp⟩
  rw [e, squareB_t, a]
  simp
def offs : List Dt := [.none, .tuple [], .tuple [.int 0, .int 1], .list [.int 0, .int 1, .int 2], .tuple [.int 0, .int 1, .int 1], .tuple [.int 0, .int 1, .int 3], .tuple [.int 0, .bool true, .int 2], .int 0]
theorem offs_bad : ∀ d ∈ offs, areAll 3 d = false := by
  intro d h
  simp only [offs, List.mem_cons, List.not_mem_nil, or_false] at h
  rcases h with rfl | rfl | rfl | rfl | rfl | rfl | rfl | rfl <;> decide +kernel
def bads1 (A : List (List Nat)) : List Dt := [.none, .tuple [], .int 0, .dict [], .list (A.map enc), encs (A ++ A.take 1), .tuple (A.map fun r => .list (r.map di)), .tuple [.tuple [.int 0, .int 1], .tuple [.int 0, .int 1]], .tuple [.tuple [.int 0, .int 0], .tuple [.int 1, .int 1]]]
def bads2 (A : List (List Nat)) : List Dt := [.tuple [.tuple [.bool true, .int 0], .tuple [.int 0, .int 1]], .tuple [.tuple [.int 1]], if 1 < A.length then encs (A.drop 1) else .int 0, .tuple [.tuple [.int 0, .int 1], .tuple [.int 1]]]
theorem bads_bad {n : Nat} {A : List (List Nat)} (L : Lat n A) (h1 : 1 ≤ n) : ∀ d ∈ bads1 A ++ bads2 A, squareB d = false := by
  obtain ⟨r0, t, rfl⟩ : ∃ r0 t, A = r0 :: t := by
    cases A with
    | nil => have := L.2; simp at this; omega
    | cons r0 t => exact ⟨r0, t, rfl⟩
  have hl := L.2
  have hr := L.1.len r0 List.mem_cons_self
  intro d h
  rw [List.mem_append] at h
  rcases h with h | h
  · simp only [bads1, List.mem_cons, List.not_mem_nil, or_false] at h
    rcases h with rfl | rfl | rfl | rfl | rfl | rfl | rfl | rfl | rfl
    · rfl
    · rfl
    · rfl
    · rfl
    · rfl
    · exact sqB_len (r := r0) (by simp) (by simp only [List.length_append, List.length_take, List.length_cons] at hl ⊢; omega)
    · rw [squareB_t]
      have a : (((r0 :: t).map fun r => PyData.list (r.map di)).all (areAll ((r0 :: t).map fun r => PyData.list (r.map di)).length)) = false := by
        rw [List.all_eq_false]
        exact ⟨_, List.mem_map.mpr ⟨r0, List.mem_cons_self, rfl⟩, by simp [areAll]⟩
      rw [a]; simp
    · decide +kernel
    · decide +kernel
  · simp only [bads2, List.mem_cons, List.not_mem_nil, or_false] at h
    rcases h with rfl | rfl | rfl | rfl
    · decide +kernel
    · decide +kernel
    · split
      · rename_i h2
        cases t with
        | nil => simp at h2
        | cons r1 t =>
          have hr1 := L.1.len r1 (by simp)
          exact sqB_len (r := r1) (by simp) (by simp only [List.length_cons, List.drop_succ_cons, List.drop_zero] at hl ⊢; omega)
      · rfl
    · decide +kernel
theorem v__law_bad {H : Dt} {n : Nat} {A : List (List Nat)} (h : HI H) (L : Lat n A) (h1 : 1 ≤ n) (h6 : n ≤ 6) : ∃ (H' d : Dt), HI H' ∧ squareB d = false ∧ F__law_bad.sem [H, encs A] = .ok (d, [H', encs A]) := by
  have hl := L.2
  obtain ⟨H', d, hi', hd, s⟩ := v__law_any (H := H) (xs := bads1 A ++ bads2 A) h (by simp [bads1]) (by simp [bads1, bads2])
  refine ⟨H', d, hi', bads_bad L h1 d hd, ?_⟩
  have e1 : ∀ x2 x3 x4, ev T__law_bad b__law_bad_1 [H, encs A, x2, x3, x4] = .ok (.list (A.map fun r => .list (r.map di)), [H, encs A, x2, x3, x4]) := fun x2 x3 x4 => by
    unfold b__law_bad_1
    rw [lc0 (fun x => match x with | .tuple l => .list l | _ => .none) (xs := A.map enc) (by simp [encs]) (by rw [List.length_map]; exact le_sz (by omega)) fun x hx => ?_]
    · rw [List.map_map]
      congr 3
      exact List.map_congr_left fun r _ => by show PyData.list _ = _; rw [zi_di]
    · obtain ⟨r, _, rfl⟩ := List.mem_map.mp hx
      have al : ∀ l : List Dt, apB1 .list (.tuple l) = some (.list l) := fun _ => rfl
      simp [al, enc]
  have t1 : slcD (encs A) none (some 1) = some (encs (A.take 1)) := slc_take' (k := 1) (by omega)
  have t2 : slcD (encs A) (some 1) none = some (encs (A.drop 1)) := slc_drop' (k := 1) (by omega)
  have ca : opB .Add (encs A) (encs (A.take 1)) = some (encs (A ++ A.take 1)) := cat_encs (by rw [List.length_take]; omega)
  have ck : ∀ r, chkT .sh (encs r) = some (encs r) := fun _ => rfl
  have al : apB1 .list (encs A) = some (.list (A.map enc)) := rfl
  have le : apB1 .len (encs A) = some (.int A.length) := by rw [show encs A = .tuple (A.map enc) from rfl, len_t, List.length_map]
  have gt : opC .Gt (.int (A.length : Int)) (.int 1) = some (decide (1 < A.length)) := by
    rw [opC_gt]; congr 1; by_cases q : 1 < A.length <;> simp [q] <;> omega
  have cl := cat_ls (bads1 A) (bads2 A) (by simp [bads1, bads2])
  have z0 : 0 ≤ sizeLine := Nat.zero_le _
  have z1 : 1 ≤ sizeLine := le_sz (by omega)
  have z2 : 2 ≤ sizeLine := le_sz (by omega)
  have z4 : 4 ≤ sizeLine := le_sz (by omega)
  have z9 : 9 ≤ sizeLine := le_sz (by omega)
  have b2 : (if 1 < A.length then encs (A.drop 1) else PyData.int 0) = (if 1 < A.length then encs (A.drop 1) else PyData.int 0) := rfl
  refine run_out rfl (e' := [H', encs A, .list (A.map fun r => .list (r.map di)), .list (bads1 A), .none]) ?_
  by_cases q : 1 < A.length
  · have eb : bads2 A = [.tuple [.tuple [.bool true, .int 0], .tuple [.int 0, .int 1]], .tuple [.tuple [.int 1]], encs (A.drop 1), .tuple [.tuple [.int 0, .int 1], .tuple [.int 1]]] := by unfold bads2; rw [if_pos q]
    rw [eb] at cl s
    simp only [b__law_bad, exs_cons, ex_set, List.cons_append, List.nil_append, List.replicate, e1, rb_ok, List.set_cons_succ, List.set_cons_zero, ex_frz, ev_frz, ev_lst, evs_cons, evs_nil, ev_non, ev_tup, List.length_nil, z0, if_true, mo_some, ev_int, ev_dct0, ev_b1, ev_var, List.getD_cons_succ, List.getD_cons_zero, al, ev_bop, ev_slc, evo_none, evo_some, intO, t1, Option.bind_some, ck, ca, tup_of, List.length_cons, z2, z9, ex_ret, kc__law_bad_17, evsA_ref, evsA_own, evsA_nil, ev_bl, z1, ev_ife, tst_cmp, le, gt, q, decide_true, t2, z4]
    simp only [bads1] at cl s
    simp only [cl, mo_some, rb_ok, vofR_of s, outs_ref, outs_own, outs_nil, sto_cons, sto_nil, List.getD_cons_zero, List.set_cons_zero, mp_at, bads1]
  · have eb : bads2 A = [.tuple [.tuple [.bool true, .int 0], .tuple [.int 0, .int 1]], .tuple [.tuple [.int 1]], .int 0, .tuple [.tuple [.int 0, .int 1], .tuple [.int 1]]] := by unfold bads2; rw [if_neg q]
    rw [eb] at cl s
    simp only [b__law_bad, exs_cons, ex_set, List.cons_append, List.nil_append, List.replicate, e1, rb_ok, List.set_cons_succ, List.set_cons_zero, ex_frz, ev_frz, ev_lst, evs_cons, evs_nil, ev_non, ev_tup, List.length_nil, z0, if_true, mo_some, ev_int, ev_dct0, ev_b1, ev_var, List.getD_cons_succ, List.getD_cons_zero, al, ev_bop, ev_slc, evo_none, evo_some, intO, t1, Option.bind_some, ck, ca, tup_of, List.length_cons, z2, z9, ex_ret, kc__law_bad_17, evsA_ref, evsA_own, evsA_nil, ev_bl, z1, ev_ife, tst_cmp, le, gt, q, decide_false, t2, z4]
    simp only [bads1] at cl s
    simp only [cl, mo_some, rb_ok, vofR_of s, outs_ref, outs_own, outs_nil, sto_cons, sto_nil, List.getD_cons_zero, List.set_cons_zero, mp_at, bads1]
end VL


set_option Elab.async false
set_option linter.all false
set_option maxRecDepth 100000
namespace VL
open PySem PL
theorem word_sq : ∃ outs, F__law_word.sem [.tuple [.str "NoSquare"]] = .ok (.str "square", outs) := wd_exc (ys := []) (by kernel_rfl)
theorem word_face : ∃ outs, F__law_word.sem [.tuple [.str "NoFace"]] = .ok (.str "face", outs) := wd_exc (ys := []) (by kernel_rfl)
theorem shp_lencs (l : List (List Nat)) : SeqAt.shaped (.list (l.map enc)) = true := shp (by rw [PyData.canLay0]; exact lay_map lay_enc _) (by
  rw [PyData.depth]
  have := dep_map (f := enc) (k := 1) (fun r => by rw [dep_enc]; omega) l
  omega)
theorem in_encs (t : List Nat) (l : List (List Nat)) : inD (enc t) (l.map enc) = some (decide (t ∈ l)) := by
  unfold inD
  rw [if_pos ⟨shp_enc t, shp_lencs l⟩]
  congr 1
  rw [List.any_map]
  induction l with
  | nil => rfl
  | cons x l ih =>
    simp only [List.any_cons, Function.comp, eqv_enc, ih]
    by_cases h : x = t
    · subst h; simp
    · have h' : ¬ t = x := fun z => h z.symm
      simp [h, h']
theorem own_mem {n : Nat} {A : List (List Nat)} {f : List Nat} : f ∈ ownF n A ↔ f ∈ faces ∧ turn n A f = A := by
  unfold ownF
  rw [List.mem_filter]
  simp
noncomputable def ownK (n : Nat) (A : List (List Nat)) (k : Nat) : List (List Nat) := (faces.take k).filter fun f => decide (turn n A f = A)
theorem ownK_succ {n : Nat} {A : List (List Nat)} {k : Nat} {f : List Nat} (h : faces[k]? = some f) : ownK n A (k + 1) = ownK n A k ++ (if turn n A f = A then [f] else []) := by
  unfold ownK
  have ht : faces.take (k + 1) = faces.take k ++ [f] := by rw [List.take_add_one, h]; rfl
  rw [ht, List.filter_append]
  by_cases q : turn n A f = A <;> simp [q]
theorem ownK_len {n : Nat} {A : List (List Nat)} {k : Nat} : (ownK n A k).length ≤ 6 := by
  unfold ownK
  have h1 := List.length_filter_le (fun f => decide (turn n A f = A)) (faces.take k)
  have h2 : (faces.take k).length ≤ 6 := by rw [List.length_take]; exact Nat.min_le_right _ _
  omega
section
variable {n : Nat} {A : List (List Nat)} (L : Lat n A) (h1 : 1 ≤ n) (h6 : n ≤ 6)
include L h1 h6
theorem v_law_1 {S H x3 x6 x7 x8 x9 x10 x11 x12 x13 x15 x16 : Dt} {k : Nat} {f : List Nat} (hk : faces[k]? = some f) : exs T_law b_law_1 [S, H, .list (faces.map enc), x3, .list ((ownK n A k).map enc), enc f, x6, x7, x8, x9, x10, x11, x12, x13, encs A, x15, x16] =
    .ok (.nx, [S, H, .list (faces.map enc), x3, .list ((ownK n A (k + 1)).map enc), enc f, encs (turn n A f), x7, x8, x9, x10, x11, x12, x13, encs A, x15, x16]) := by
  have hf := List.mem_of_getElem? hk
  have w1 : ∀ e, vof F__law_turned [encs A, enc f] e = .ok (encs (turn n A f), e) := fun e => vof_gv (v__law_turned L h6 hf)
  have w2 : ∀ e, vof F_turned [encs A, enc f] e = .ok (encs (turn n A f), e) := fun e => vof_gv (v_turned L h1 h6 hf)
  have w3 : ∀ e, vof F_is_square [encs (turn n A f)] e = .ok (.bool true, e) := fun e => by rw [w_is_square, lat_sq (turn_lat L hf) h1 h6]
  have nn : opC .IsNot (.bool true) (.bool true) = some false := rfl
  have z0 : 0 ≤ sizeLine := Nat.zero_le _
  have z1 : 1 ≤ sizeLine := le_sz (by omega)
  have ol := ownK_len (n := n) (A := A) (k := k)
  rw [ownK_succ hk]
  by_cases q : turn n A f = A
  · have cl := cat_ls ((ownK n A k).map enc) [enc f] (by simp; omega)
    simp only [b_law_1, exs_cons, ex_set, kc_law_26, kc_law_11, kc_law_5, evsA_own, evsA_nil, ev_var, rb_ok, List.getD_cons_succ, List.getD_cons_zero, w1, List.set_cons_succ, List.set_cons_zero, ev_frz, ev_bop, ev_ife, tst_cmp, eq_encs, q, decide_true, mo_some, ev_lst, evs_cons, evs_nil, List.length_cons, List.length_nil, z1, if_true, cl, ex_ife, tst_or, tsOr_cons, tsOr_one, w2, ne_self (shp_encs _), w3, ev_bl, nn, exs_nil, List.map_append, List.map_cons, List.map_nil]
    simp only [q] at w2 w3 ⊢
    simp only [w2, rb_ok, ne_self (shp_encs _), mo_some, w3, nn, exs_nil]
  · have cl := cat_ls ((ownK n A k).map enc) [] (by simp; omega)
    simp only [b_law_1, exs_cons, ex_set, kc_law_26, kc_law_11, kc_law_5, evsA_own, evsA_nil, ev_var, rb_ok, List.getD_cons_succ, List.getD_cons_zero, w1, List.set_cons_succ, List.set_cons_zero, ev_frz, ev_bop, ev_ife, tst_cmp, eq_encs, q, decide_false, mo_some, ev_lst, evs_nil, List.length_nil, z0, if_true, if_false, cl, ex_ife, tst_or, tsOr_cons, tsOr_one, w2, ne_self (shp_encs _), w3, ev_bl, nn, exs_nil, List.append_nil]
end
end VL


set_option Elab.async false
set_option linter.all false
set_option maxRecDepth 100000
namespace VL
open PySem PL
theorem app_w (xs : List Dt) (d : Dt) (h : xs.length ≤ 10) : updAt (fun z => apMth .append z [d]) [] (.list xs) = some (.none, .list (xs ++ [d])) := app_at xs d (by omega)
theorem v_law_4 {S H x3 x4 x5 x6 x7 x8 x9 x10 x11 x12 x13 x14 x15 x16 : Dt} (h : HI H) : ∃ (H' y4 y5 y6 y7 y8 y9 y10 y11 y12 y13 y14 : Dt), HI H' ∧
    exs T_law b_law_4 [S, H, .list (faces.map enc), x3, x4, x5, x6, x7, x8, x9, x10, x11, x12, x13, x14, x15, x16] = .ok (.nx, [S, H', .list (faces.map enc), x3, y4, y5, y6, y7, y8, y9, y10, y11, y12, y13, y14, x15, x16]) := by
  obtain ⟨H1, n, A, i1, h1, h6, L, s1⟩ := v__law_square (most := 6) h (by omega) (by omega)
  obtain ⟨e', w, y5, y6, rfl⟩ := for_all (f := fun x e => exs T_law b_law_1 (e.set 5 x)) (xs := faces.map enc) (e := [S, H1, .list (faces.map enc), x3, .list [], x5, x6, x7, x8, x9, x10, x11, x12, x13, encs A, x15, x16])
    (fun k e => ∃ y5 y6, e = [S, H1, .list (faces.map enc), x3, .list ((ownK n A k).map enc), y5, y6, x7, x8, x9, x10, x11, x12, x13, encs A, x15, x16]) ⟨_, _, rfl⟩ fun k x e hx I => by
      obtain ⟨y5, y6, rfl⟩ := I
      rw [List.getElem?_map] at hx
      cases q : faces[k]? with
      | none => rw [q] at hx; cases hx
      | some f =>
        rw [q] at hx
        cases hx
        exact ⟨_, v_law_1 L h1 h6 q, enc f, _, rfl⟩
  have eo : ownK n A (faces.map enc).length = ownF n A := by
    rw [List.length_map]; unfold ownK; rw [List.take_length]; rfl
  rw [eo] at w
  obtain ⟨H2, d2, i2, m2, s2⟩ := v__law_any (H := H1) (xs := faces.map enc) i1 (by decide) (by decide)
  obtain ⟨f, hf, rfl⟩ := List.mem_map.mp m2
  obtain ⟨H3, d3, i3, m3, s3⟩ := v__law_any (H := H2) (xs := faces.map enc) i2 (by decide) (by decide)
  obtain ⟨g, hg, rfl⟩ := List.mem_map.mp m3
  obtain ⟨H4, bad, i4, hbad, s4⟩ := v__law_bad (H := H3) i3 L h1 h6
  obtain ⟨H5, off, i5, m5, s5⟩ := v__law_any (H := H4) (xs := offs) i4 (by decide) (by decide)
  have hoff := offs_bad off m5
  have s1' : F__law_square.sem [H, .int 6] = .ok (encs A, [H1, .int 6]) := s1
  have w1 : ∀ e, vof F_own_faces [encs A] e = .ok (.tuple ((ownF n A).map enc), e) := fun e => vof_gv (v_own_faces L h1 h6)
  have w2 : ∀ e, vof F_after_face [enc f, enc g] e = .ok (enc (pick f g), e) := fun e => vof_gv (v_after_face hf hg)
  have t1 : ∀ {B : List (List Nat)} {f : List Nat}, Lat n B → f ∈ faces → ∀ e, vof F_turned [encs B, enc f] e = .ok (encs (turn n B f), e) := fun LB hf e => vof_gv (v_turned LB h1 h6 hf)
  obtain ⟨tt, pf⟩ := turn_turn L hf hg
  have r120 : [1, 2, 0] ∈ faces := by decide
  have r102 : [1, 0, 2] ∈ faces := by decide
  have r012 : [0, 1, 2] ∈ faces := by decide
  have e3 : turn n (turn n (turn n A [1, 2, 0]) [1, 2, 0]) [1, 2, 0] = A := by
    rw [(turn_turn L r120 r120).1, (turn_turn L (turn_turn L r120 r120).2 r120).1]
    exact turn_id L
  have e2 : turn n (turn n A [1, 0, 2]) [1, 0, 2] = A := by
    rw [(turn_turn L r102 r102).1]
    exact turn_id L
  have k120 : PyData.tuple [.int 1, .int 2, .int 0] = enc [1, 2, 0] := rfl
  have k102 : PyData.tuple [.int 1, .int 0, .int 2] = enc [1, 0, 2] := rfl
  have k012 : PyData.tuple [.int 0, .int 1, .int 2] = enc [0, 1, 2] := rfl
  have LT := @turn_lat n
  have z0 : 0 ≤ sizeLine := Nat.zero_le _
  have z1 : 1 ≤ sizeLine := le_sz (by omega)
  have z2 : 2 ≤ sizeLine := le_sz (by omega)
  have z3 : 3 ≤ sizeLine := le_sz (by omega)
  have z5 : 5 ≤ sizeLine := le_sz (by omega)
  have z8 : 8 ≤ sizeLine := le_sz (by omega)
  have closed : ∀ a ∈ ownF n A, ∀ b ∈ ownF n A, pick a b ∈ ownF n A := fun a ha b hb => by
    obtain ⟨a1, a2⟩ := own_mem.mp ha
    obtain ⟨b1, b2⟩ := own_mem.mp hb
    obtain ⟨c1, c2⟩ := turn_turn L a1 b1
    exact own_mem.mpr ⟨c2, by rw [← c1, a2, b2]⟩
  have id_own : [0, 1, 2] ∈ ownF n A := own_mem.mpr ⟨r012, turn_id L⟩
  have ol : (ownF n A).length ≤ 6 := by
    have := List.length_filter_le (fun f => decide (turn n A f = A)) faces
    exact this
  have c2 : ∀ a, a ∈ ownF n A → ∀ y5 y6 y7 y8 y9 y10 y11 y12 y13 y16 H', ev T_law b_law_2 [S, H', .list (faces.map enc), x3, .list ((ownF n A).map enc), y5, y6, y7, y8, y9, y10, y11, y12, y13, encs A, enc a, y16] = .ok (.list (((ownF n A).map enc).map fun d => .bool ((fun _ => true) d)), [S, H', .list (faces.map enc), x3, .list ((ownF n A).map enc), y5, y6, y7, y8, y9, y10, y11, y12, y13, encs A, enc a, y16]) := fun a ha y5 y6 y7 y8 y9 y10 y11 y12 y13 y16 H' => by
    unfold b_law_2
    rw [lc0 (fun d => .bool ((fun _ => true) d)) (xs := (ownF n A).map enc) (by simp) (by rw [List.length_map]; exact le_sz (by omega)) fun x hx => ?_]
    obtain ⟨b, hb, rfl⟩ := List.mem_map.mp hx
    have wa : ∀ e, vof F_after_face [enc a, enc b] e = .ok (enc (pick a b), e) := fun e => vof_gv (v_after_face (own_mem.mp ha).1 (own_mem.mp hb).1)
    have ic : opC .In (enc (pick a b)) (.list ((ownF n A).map enc)) = some true := by
      show inD _ _ = _
      rw [in_encs, decide_eq_true (closed a ha b hb)]
    simp only [List.set_cons_succ, List.set_cons_zero, ev_cmp, kc_law_12, evsA_own, evsA_nil, ev_var, rb_ok, List.getD_cons_succ, List.getD_cons_zero, wa, ic, Option.map_some, mo_some]
  have allT : ∀ l : List Dt, apB1 .all (.list (l.map fun d => .bool ((fun _ => true) d))) = some (.bool true) := fun l => by
    rw [all_map]; congr 2; exact List.all_eq_true.mpr fun _ _ => rfl
  have c3 : ∀ y5 y6 y7 y8 y9 y10 y11 y12 y13 y15 y16 H', ev T_law b_law_3 [S, H', .list (faces.map enc), x3, .list ((ownF n A).map enc), y5, y6, y7, y8, y9, y10, y11, y12, y13, encs A, y15, y16] = .ok (.list (((ownF n A).map enc).map fun d => .bool ((fun _ => true) d)), [S, H', .list (faces.map enc), x3, .list ((ownF n A).map enc), y5, y6, y7, y8, y9, y10, y11, y12, y13, encs A, y15, y16]) := fun y5 y6 y7 y8 y9 y10 y11 y12 y13 y15 y16 H' => by
    unfold b_law_3
    rw [lc0 (fun d => .bool ((fun _ => true) d)) (xs := (ownF n A).map enc) (by simp) (by rw [List.length_map]; exact le_sz (by omega)) fun x hx => ?_]
    obtain ⟨a, ha, rfl⟩ := List.mem_map.mp hx
    simp only [List.set_cons_succ, List.set_cons_zero, ev_b1, c2 a ha, rb_ok, allT, mo_some]
  have oT : PyData.tuple ((ownF n A).map enc) = encs (ownF n A) := rfl
  have nin : opC .NotIn (enc [0, 1, 2]) (.list ((ownF n A).map enc)) = some false := by
    show (inD _ _).map _ = _
    rw [in_encs, decide_eq_true id_own]; rfl
  have wb1 : ∀ e, vof F_turned [bad, off] e = .exc "NoSquare" [] := fun e => vof_rs (r_turned_square hbad)
  have wb2 : ∀ e, vof F_turned [encs A, off] e = .exc "NoFace" [] := fun e => vof_rs (r_turned_face L h1 h6 hoff)
  have wb3 : ∀ e, vof F_after_face [off, enc f] e = .exc "NoFace" [] := fun e => vof_rs (r_after_one hoff)
  have wb4 : ∀ e, vof F_after_face [enc f, off] e = .exc "NoFace" [] := fun e => vof_rs (r_after_two hf hoff)
  have wb5 : ∀ e, vof F_own_faces [bad] e = .exc "NoSquare" [] := fun e => by
    refine vof_rs (run_rs rfl ?_)
    simp [b_own_faces, List.replicate, vof_rs (r_check_square hbad)]
  have W1 : ∀ (p1 p2 p3 p4 p5 p6 p7 : Pos) (sc : Scope) (e : Ev), e.getD 11 .none = bad → e.getD 12 .none = off → ev T_law (.wrd 25 "_law_word" (.call 11 "turned" (.cons (.var "bad" 11 p1) (.cons (.var "off" 12 p2) .nil)) p3 p4) sc p5 p6 p7) e = .ok (.str "square", e) := fun p1 p2 p3 p4 p5 p6 p7 sc e q1 q2 => ev_wrd_exc (F := F__law_word) rfl (by simp only [kc_law_11, evsA_own, evsA_nil, ev_var, q1, q2, rb_ok, wb1]) word_sq
  have W2 : ∀ (p1 p2 p3 p4 p5 p6 p7 : Pos) (sc : Scope) (e : Ev), e.getD 14 .none = encs A → e.getD 12 .none = off → ev T_law (.wrd 25 "_law_word" (.call 11 "turned" (.cons (.var "square" 14 p1) (.cons (.var "off" 12 p2) .nil)) p3 p4) sc p5 p6 p7) e = .ok (.str "face", e) := fun p1 p2 p3 p4 p5 p6 p7 sc e q1 q2 => ev_wrd_exc (F := F__law_word) rfl (by simp only [kc_law_11, evsA_own, evsA_nil, ev_var, q1, q2, rb_ok, wb2]) word_face
  have W3 : ∀ (p1 p2 p3 p4 p5 p6 p7 : Pos) (sc : Scope) (e : Ev), e.getD 12 .none = off → e.getD 13 .none = enc f → ev T_law (.wrd 25 "_law_word" (.call 12 "after_face" (.cons (.var "off" 12 p1) (.cons (.var "one" 13 p2) .nil)) p3 p4) sc p5 p6 p7) e = .ok (.str "face", e) := fun p1 p2 p3 p4 p5 p6 p7 sc e q1 q2 => ev_wrd_exc (F := F__law_word) rfl (by simp only [kc_law_12, evsA_own, evsA_nil, ev_var, q1, q2, rb_ok, wb3]) word_face
  have W4 : ∀ (p1 p2 p3 p4 p5 p6 p7 : Pos) (sc : Scope) (e : Ev), e.getD 13 .none = enc f → e.getD 12 .none = off → ev T_law (.wrd 25 "_law_word" (.call 12 "after_face" (.cons (.var "one" 13 p1) (.cons (.var "off" 12 p2) .nil)) p3 p4) sc p5 p6 p7) e = .ok (.str "face", e) := fun p1 p2 p3 p4 p5 p6 p7 sc e q1 q2 => ev_wrd_exc (F := F__law_word) rfl (by simp only [kc_law_12, evsA_own, evsA_nil, ev_var, q1, q2, rb_ok, wb4]) word_face
  have W5 : ∀ (p1 p3 p4 p5 p6 p7 : Pos) (sc : Scope) (e : Ev), e.getD 11 .none = bad → ev T_law (.wrd 25 "_law_word" (.call 14 "own_faces" (.cons (.var "bad" 11 p1) .nil) p3 p4) sc p5 p6 p7) e = .ok (.str "square", e) := fun p1 p3 p4 p5 p6 p7 sc e q1 => ev_wrd_exc (F := F__law_word) rfl (by simp only [kc_law_14, evsA_own, evsA_nil, ev_var, q1, rb_ok, wb5]) word_sq
  have fin : opC .NotEq (.list [.str "square", .str "face", .str "face", .str "face", .str "square"]) (.list [.str "square", .str "face", .str "face", .str "face", .str "square"]) = some false := ne_self (by decide +kernel)
  have a1 := app_w [.str "square"] (.str "face") (by decide)
  have a2 := app_w [.str "square", .str "face"] (.str "face") (by decide)
  have a3 := app_w [.str "square", .str "face", .str "face"] (.str "face") (by decide)
  have a4 := app_w [.str "square", .str "face", .str "face", .str "face"] (.str "square") (by decide)
  refine ⟨H5, .list ((ownF n A).map enc), y5, y6, enc g, enc (pick f g), encs A, .list [.str "square", .str "face", .str "face", .str "face", .str "square"], bad, off, enc f, encs A, i5, ?_⟩
  have sT : (PyData.tuple [enc f, enc g]) = .tuple [enc f, enc g] := rfl
  simp only [offs] at s5
  simp only [b_law_4, exs_cons, ex_set, kc_law_20, evsA_ref, evsA_own, evsA_nil, ev_var, ev_int, rb_ok, List.getD_cons_succ, List.getD_cons_zero, vofR_of s1', outs_ref, outs_own, outs_nil, sto_cons, sto_nil, List.set_cons_succ, List.set_cons_zero, ev_frz, ev_lst, evs_nil, List.length_nil, z0, if_true, mo_some, ex_for_nm, itr_of, seq_l]
  rw [w]
  simp only [rb_ok, exs_cons, ex_ife, tst_cmp, kc_law_14, evsA_own, evsA_nil, ev_var, List.getD_cons_succ, List.getD_cons_zero, w1, ev_b1, tup_of, mo_some, oT, ne_self (shp_encs _), exs_nil, ex_setT, ev_tup, evs_cons, evs_nil, kc_law_17, evsA_ref, vofR_of s2, vofR_of s3, outs_ref, outs_own, outs_nil, sto_cons, sto_nil, List.set_cons_succ, List.set_cons_zero, List.length_cons, List.length_nil, z2, if_true, bnd_tp, tupOf, bnds_cons, bnd_nm, bnds_nil, ex_set, kc_law_12, w2]
  simp only [kc_law_11, evsA_own, evsA_nil, ev_var, rb_ok, List.getD_cons_succ, List.getD_cons_zero, t1 L hf, t1 (LT L hf) hg, tt, t1 L pf, mo_some, ne_self (shp_encs _), exs_nil, exs_cons, ex_ife, tst_or, tsOr_cons, tsOr_one, tst_not, tst_b1, tst_cmp, c3, allT, Option.bind_some, tru_b, Bool.not_true, ev_tup, evs_cons, evs_nil, ev_int, List.length_cons, List.length_nil, z3, if_true, k012, nin]
  simp only [ex_set, kc_law_11, evsA_own, evsA_nil, ev_var, ev_tup, evs_cons, evs_nil, ev_int, rb_ok, List.getD_cons_succ, List.getD_cons_zero, List.length_cons, List.length_nil, z3, if_true, mo_some, k120, k102, t1 L r120, t1 (LT L r120) r120, t1 (LT (LT L r120) r120) r120, e3, List.set_cons_succ, List.set_cons_zero, exs_cons, ex_ife, tst_or, tsOr_cons, tsOr_one, tst_cmp, ne_self (shp_encs _), t1 L r102, t1 (LT L r102) r102, e2, exs_nil]
  simp only [ex_set, kc_law_24, kc_law_17, evsA_ref, evsA_own, evsA_nil, ev_var, rb_ok, List.getD_cons_succ, List.getD_cons_zero, vofR_of s4, outs_ref, outs_own, outs_nil, sto_cons, sto_nil, List.set_cons_succ, List.set_cons_zero, exs_cons, ev_frz, ev_lst, evs_cons, evs_nil, ev_non, ev_tup, ev_int, ev_bl, List.length_cons, List.length_nil, z0, z1, z2, z3, z8, if_true, mo_some, vofR_of s5]
  simp only [W1, W2, W3, W4, W5, ex_exp, ev_mut, pth_nm, evs_cons, evs_nil, rb_ok, List.getD_cons_succ, List.getD_cons_zero, List.set_cons_succ, List.set_cons_zero, exs_cons, exs_nil, List.length_cons, List.length_nil, z1, z5, if_true, mo_some, a1, a2, a3, a4, List.cons_append, List.nil_append, ex_ife, tst_cmp, ev_var, ev_lst, ev_str, fin]
theorem v_law (ns : List Int) : Gv F_law [.list (ns.map .int)] (.bool true) := by
  obtain ⟨H, hi, hh⟩ := v__law_hand ns
  have hh' : ∀ e, vof F__law_hand [.list (ns.map .int)] e = .ok (H, e) := fun e => vof_gv hh
  have ha : ∀ e, vof F__law_all [.int 3] e = .ok (.list (faces.map enc), e) := fun e => vof_gv v__law_all3
  have r3 : rangeOf [.int 3] = some ((List.range 3).map di) := range_of (n := 3) (by omega)
  obtain ⟨e', w, H', y3, y4, y5, y6, y7, y8, y9, y10, y11, y12, y13, y14, i', rfl⟩ := for_all (f := fun x e => exs T_law b_law_4 (e.set 3 x)) (xs := (List.range 3).map di) (e := [.list (ns.map .int), H, .list (faces.map enc), .none, .none, .none, .none, .none, .none, .none, .none, .none, .none, .none, .none, .none, .none])
    (fun k e => ∃ H' y3 y4 y5 y6 y7 y8 y9 y10 y11 y12 y13 y14, HI H' ∧ e = [.list (ns.map .int), H', .list (faces.map enc), y3, y4, y5, y6, y7, y8, y9, y10, y11, y12, y13, y14, .none, .none]) ⟨H, _, _, _, _, _, _, _, _, _, _, _, _, hi, rfl⟩ fun k x e hx I => by
      obtain ⟨H', y3, y4, y5, y6, y7, y8, y9, y10, y11, y12, y13, y14, i', rfl⟩ := I
      obtain ⟨H2, z4, z5, z6, z7, z8, z9, z10, z11, z12, z13, z14, i2, w2⟩ := v_law_4 i' (S := .list (ns.map .int)) (x3 := x) (x4 := y4) (x5 := y5) (x6 := y6) (x7 := y7) (x8 := y8) (x9 := y9) (x10 := y10) (x11 := y11) (x12 := y12) (x13 := y13) (x14 := y14) (x15 := .none) (x16 := .none)
      exact ⟨_, w2, H2, x, z4, z5, z6, z7, z8, z9, z10, z11, z12, z13, z14, i2, rfl⟩
  refine run_gv rfl (e' := [.list (ns.map .int), H', .list (faces.map enc), y3, y4, y5, y6, y7, y8, y9, y10, y11, y12, y13, y14, .none, .none]) ?_
  simp only [b_law, exs_cons, ex_set, kc_law_15, kc_law_23, evsA_bor, evsA_own, evsA_nil, ev_var, ev_int, rb_ok, List.cons_append, List.nil_append, List.replicate, List.getD_cons_succ, List.getD_cons_zero, hh', ha, List.set_cons_succ, List.set_cons_zero, ex_for_nm, itr_rng, evs_cons, evs_nil, r3, mo_some]
  rw [w]
  rfl
end VL


theorem PySem.Challenge.cw_squarehouse_k04_whole_faces_of_squares_holds : PySem.Challenge.rw_squarehouse_k04_whole_faces_of_squares.Holds := by
  exact VL.a_holds fun ns _ _ => VL.v_law ns
