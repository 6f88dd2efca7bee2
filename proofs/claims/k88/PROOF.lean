import PyProof.Rows.All
import HandS.ForMost
import HandS.TupMul
import HandS.TupAny
import HandS.Wide
import HandS.WideBits
import HandS.Deep
import HandS.Style
import HandS.Flow
import HandS.SortInts
import HandS.Zip
import HandS.Rev
import HandS.Iter
import KE.GoesZip
import KE.GoesMore
import HandS.IsInst
import HandS.TryOnly
import HandS.RaiseMore
import HandS.ForExc
import HandS.ExcOwn
import KE.KRevSl
import HandS.Comp
import HandS.Star
import HandS.DictComp
import HandS.Defaults
import HandS.Head3
import HandS.HeadEnd
import HandS.Head0
import HandS.Head1
import HandS.Head2
import HandS.HeadHook1
import HandS.HeadHook2
import HandS.HeadHook3
import HandS.HeadHook4
import PyProof.NoPylong
import PyProof.Rows.StrMeet
import PyProof.Rows.StrJoinMade
import Lean
import PySem.Challenge.RW_bitcounts_k88_clauses_of_the_checker_alo
set_option Elab.async false
set_option linter.all false
set_option maxRecDepth 100000
namespace Bc
open PySem

/-- values, as trees -/
inductive D where
  | non | bl (b : Bool) | int (i : Int) | str (x : Str)
  | tup (xs : List D)
  | lst (fz : Bool) (xs : List D)
  | ro (xs : List D)
  | dK (fz : Bool) (kvs : List (L2.Key × D))
  | dT (fz : Bool) (kvs : List (List L2.Key × D))
  | ins (c : Nat) (fs : List (Nat × D))
  | exc (c : Nat) (fs : List (Nat × D))
  | cls (c : Nat)
  | fn (f : Nat)
  | loc (n : Nat)
  deriving Inhabited

/-- the long-lived mutable lists -/
abbrev Sto := List (List D)

inductive R (α : Type) where
  | ok (a : α)
  | exc (c : Nat) (fs : List (Nat × D)) (s : Sto)
  | stuck

def M (α : Type) : Type := Sto → R (α × Sto)
def M.pure {α : Type} (a : α) : M α := fun s => .ok (a, s)
def M.bind {α β : Type} (m : M α) (f : α → M β) : M β := fun s => match m s with
  | .ok (a, s') => f a s'
  | .exc c fs s' => .exc c fs s'
  | .stuck => .stuck
instance : Monad M where
  pure := M.pure
  bind := M.bind
def stuck {α : Type} : M α := fun _ => .stuck
def ofOpt {α : Type} : Option α → M α
  | some a => M.pure a
  | none => stuck
def need (b : Bool) : M Unit := fun s => if b then .ok ((), s) else .stuck

/-- a frame's slots -/
inductive Slot where
  | un | val (d : D) | own (xs : List D) | ownK (kvs : List (L2.Key × D)) | ownT (kvs : List (List L2.Key × D))
  deriving Inhabited
abbrev Env := List Slot

inductive Bf where
  | len | abs | min2 | max2 | int1 | bool1 | sum | any | all | tuple | list | sorted | str1 | divmod
  deriving DecidableEq
inductive Bm where
  | bitLength | index | count | get2
  deriving DecidableEq
inductive Ty where
  | int | bool | str | tuple | list | dict | cls (c : Nat)
  deriving DecidableEq
inductive Itb where
  | seq | range1 | range2 | range3 | enum | zip | rev
  deriving DecidableEq

mutual
inductive E where
  | nev
  | var (i : Nat)
  | own (i : Nat)
  | int (i : Int) | bl (b : Bool) | non | str (x : Str)
  | glob (d : D)
  | bin (o : Operator) (a b : E)
  | neg (a : E) | inv (a : E) | not (a : E)
  | cmp (o : CmpOp) (a b : E)
  | cmp2 (o o' : CmpOp) (a b c : E)
  | and (a b : E) | or (a b : E)
  | ite (c a b : E)
  | tup (es : Es) | lst (es : Es)
  | sub (a i : E)
  | slice (a : E) (lo hi : Op)
  | rev (a : E) (s : Op)
  | fld (a : E) (n : Nat)
  | call (f : Nat) (es : Es)
  | callB (f : Nat) (es : Es)
  | call0 (f : Nat)
  | callR (f : Nat) (a b : E)
  | make (c : Nat) (es : Es)
  | isi (a : E) (ts : List Ty)
  | bi (b : Bf) (es : Es)
  | bm (b : Bm) (a : E) (es : Es)
  | kget (x : Str) (a b : E)
  | dcT (t : T) (k : Itb) (it : Es) (cs : Es) (e f : E) (own : List Nat)
  | lc (t : T) (k : Itb) (it : Es) (cs : Es) (e : E) (own : List Nat)
  | lc2 (t : T) (k : Itb) (it : Es) (cs : Es) (t1 : T) (k1 : Itb) (it1 : Es) (cs1 : Es) (e : E) (own own1 : List Nat)
inductive Es where
  | nil | cons (e : E) (r : Es) | star (e : E) (r : Es)
inductive Op where
  | no | ex (e : E)
inductive T where
  | nm (i : Nat) | tp (ts : Ts) | sub (a k : E)
inductive Ts where
  | nil | cons (t : T) (r : Ts)
end

mutual
inductive S where
  | nev
  | asg (t : T) (e : E)
  | asgOwn (i : Nat) (e : E)
  | asgTO (i j : Nat) (e f : E)
  | freeze (i : Nat)
  | app (i : Nat) (e : E)
  | put (i : Nat) (k e : E)
  | expr (e : E)
  | ret (e : E)
  | retN
  | retLoc (es : Es)
  | ite (c : E) (a b : Ss)
  | loop (t : T) (k : Itb) (it : Es) (b : Ss)
  | whil (c : E) (b : Ss)
  | brk | cont | pass
inductive Ss where
  | nil | cons (s : S) (r : Ss)
end

/-! ### operations on values -/
def LINE : Nat := 16777216
def asSeq : D → Option (List D)
  | .tup xs => some xs
  | .lst _ xs => some xs
  | .ro xs => some xs
  | _ => none
def lenOk (n : Nat) : Bool := decide (n ≤ LINE)
def mulOk (i j : Int) : Bool := decide (i.natAbs.log2 + j.natAbs.log2 < 1000000)
/-- C divides by itself -/
def pyDiv (i j : Int) : Bool := decide (0 < j) && !Builtin.divisionGoesByPylong i j
def divOk (j : Int) : Bool := decide (0 < j ∧ j.natAbs.log2 < 9000)
def powOk (i j : Int) : Bool := decide (0 ≤ j ∧ j ≤ 1000000 ∧ i.natAbs < 2 ^ 64)
def binI (o : Operator) (i j : Int) : M D := match o with
  | .Add => pure (.int (i + j))
  | .Sub => pure (.int (i - j))
  | .Mult => do need (mulOk i j); pure (.int (i * j))
  | .FloorDiv => do need (pyDiv i j); pure (.int (i / j))
  | .Mod => do need (decide (0 < j)); pure (.int (i % j))
  | .Pow => do need (powOk i j); pure (.int (i ^ j.toNat))
  | .RShift => do need (decide (0 ≤ j)); pure (.int (i / 2 ^ j.toNat))
  | .BitAnd => pure (.int (Builtin.bitAnd i j))
  | .BitOr => pure (.int (Builtin.bitOr i j))
  | .BitXor => pure (.int (Builtin.bitXor i j))
  | _ => stuck
def repL (xs : List D) (k : Int) : List D := (List.replicate k.toNat xs).flatten
def binD (o : Operator) (x y : D) : M D := match x, y with
  | .int i, .int j => binI o i j
  | .str a, .str b => (match o with
    | .Add => do need (lenOk (a.length + b.length)); pure (.str (a ++ b))
    | _ => stuck)
  | .tup a, .tup b => (match o with
    | .Add => do need (lenOk (a.length + b.length)); pure (.tup (a ++ b))
    | _ => stuck)
  | .lst _ a, .lst _ b => (match o with
    | .Add => do need (lenOk (a.length + b.length)); pure (.lst true (a ++ b))
    | _ => stuck)
  | .lst _ a, .int k => (match o with
    | .Mult => do need (decide (0 ≤ k ∧ k < 1000000) && lenOk (a.length * k.toNat)); pure (.lst true (repL a k))
    | _ => stuck)
  | .tup a, .int k => (match o with
    | .Mult => do need (decide (0 ≤ k ∧ k < 1000000) && lenOk (a.length * k.toNat)); pure (.tup (repL a k))
    | _ => stuck)
  | _, _ => stuck

mutual
/-- what == looks at -/
def toPy : D → Option PyData
  | .non => some .none
  | .bl b => some (.bool b)
  | .int i => some (.int i)
  | .str x => some (.str x)
  | .tup xs => (toPys xs).map .tuple
  | .lst _ xs => (toPys xs).map .list
  | _ => none
def toPys : List D → Option (List PyData)
  | [] => some []
  | x :: xs => match toPy x, toPys xs with
    | some d, some ds => some (d :: ds)
    | _, _ => none
end
/-- equal data: none where == is not ours -/
def eqD (x y : D) : Option Bool := match toPy x, toPy y with
  | some d, some e => if SeqAt.shaped d && SeqAt.shaped e then some (PyData.eqv d e) else none
  | _, _ => none
def asInts : List D → Option (List Int)
  | [] => some []
  | .int i :: r => (asInts r).map (i :: ·)
  | _ => none
def asStrs : List D → Option (List Str)
  | [] => some []
  | .str i :: r => (asStrs r).map (i :: ·)
  | _ => none
def asBls : List D → Option (List Bool)
  | [] => some []
  | .bl i :: r => (asBls r).map (i :: ·)
  | _ => none
def ltD : D → D → Option Bool
  | .int i, .int j => some (decide (i < j))
  | .str a, .str b => some (decide (a.cps.toList < b.cps.toList))
  | .tup a, .tup b => match asInts a, asInts b with
    | some x, some y => some (HT.lexLt x y)
    | _, _ => none
  | _, _ => none
def flatD : D → Bool
  | .non => true
  | .bl _ => true
  | .int _ => true
  | .str _ => true
  | _ => false
def eqFlat : D → D → Bool
  | .non, .non => true
  | .bl a, .bl b => a == b
  | .bl a, .int b => (if a then 1 else 0) == b
  | .int a, .bl b => a == (if b then 1 else 0)
  | .int a, .int b => a == b
  | .str a, .str b => a == b
  | _, _ => false
theorem sign_eq {a : Str} (h : a.cps.toList.length = 1) : a = ⟨#[a.cps.toList.headD 0]⟩ := by
  obtain ⟨⟨l⟩⟩ := a
  cases l with
  | nil => simp at h
  | cons x r => cases r with
    | nil => rfl
    | cons y r => simp at h
def keyOf : D → Option L2.Key
  | .int i => some (.inl i)
  | .str z => some (.inr z)
  | _ => none
def keysOf : List D → Option (List L2.Key)
  | [] => some []
  | x :: r => match keyOf x, keysOf r with
    | some k, some ks => some (k :: ks)
    | _, _ => none
def dVal {κ : Type} [DecidableEq κ] (kvs : List (κ × D)) (k : κ) : Option D := (kvs.find? fun kv => decide (kv.1 = k)).map (·.2)
def dPut {κ : Type} [DecidableEq κ] (kvs : List (κ × D)) (k : κ) (v : D) : List (κ × D) :=
  if kvs.any fun kv => decide (kv.1 = k) then kvs.map fun kv => if kv.1 = k then (kv.1, v) else kv else kvs ++ [(k, v)]
def inK (kvs : List (L2.Key × D)) (x : D) : Option Bool := (keyOf x).map fun k => (dVal kvs k).isSome
def inT (kvs : List (List L2.Key × D)) : D → Option Bool
  | .tup xs => (keysOf xs).map fun k => (dVal kvs k).isSome
  | _ => none
def inD (x y : D) : Option Bool := match y with
  | .dK true kvs => inK kvs x
  | .dT true kvs => inT kvs x
  | .lst _ xs => (match toPy x, toPys xs with
    | some d, some ds => if SeqAt.shaped d && SeqAt.shaped (.list ds) then some (ds.any fun z => PyData.eqv z d) else none
    | _, _ => none)
  | .tup xs => if flatD x && xs.all flatD then some (xs.any fun e => eqFlat e x) else (match toPy x, toPys xs with
    | some d, some ds => if SeqAt.shaped d && SeqAt.shaped (.tuple ds) then some (ds.any fun z => PyData.eqv z d) else none
    | _, _ => none)
  | .str z => (match x with
    | .str a => if a.cps.toList.length = 1 then some (decide (a.cps.toList.headD 0 ∈ z.cps.toList)) else none
    | _ => none)
  | _ => none
def isD (x y : D) : Option Bool := match x, y with
  | .bl a, .bl b => some (decide (a = b))
  | .non, .non => some true
  | .bl _, .non => some false
  | .int _, .non => some false
  | .str _, .non => some false
  | .tup _, .non => some false
  | .lst _ _, .non => some false
  | .ins _ _, .non => some false
  | .exc _ _, .non => some false
  | _, _ => none
def cmpD (o : CmpOp) (x y : D) : M D := match o with
  | .Eq => (ofOpt (eqD x y)).bind fun b => pure (.bl b)
  | .NotEq => (ofOpt (eqD x y)).bind fun b => pure (.bl (!b))
  | .Lt => (ofOpt (ltD x y)).bind fun b => pure (.bl b)
  | .Gt => (match x, y with
    | .int i, .int j => pure (.bl (decide (j < i)))
    | _, _ => stuck)
  | .LtE => (match x, y with
    | .int i, .int j => pure (.bl (decide (i ≤ j)))
    | _, _ => stuck)
  | .GtE => (match x, y with
    | .int i, .int j => pure (.bl (decide (j ≤ i)))
    | _, _ => stuck)
  | .In => (ofOpt (inD x y)).bind fun b => pure (.bl b)
  | .NotIn => (ofOpt (inD x y)).bind fun b => pure (.bl (!b))
  | .Is => (ofOpt (isD x y)).bind fun b => pure (.bl b)
  | .IsNot => (ofOpt (isD x y)).bind fun b => pure (.bl (!b))
def truth : D → Option Bool
  | .non => some false
  | .bl b => some b
  | .int i => some (i != 0)
  | .str x => if x.length ≤ LINE then some ((x.length : Int) != 0) else none
  | .tup xs => some (!xs.isEmpty)
  | .lst _ xs => some (!xs.isEmpty)
  | .ro xs => some (!xs.isEmpty)
  | _ => none
def truM (x : D) : M Bool := ofOpt (truth x)
def locAt (n : Nat) (i : Int) : M D := fun s => (ofOpt ((s[n]?).bind fun xs => L2.atI xs i)) s
def subD (x i : D) : M D := match x, i with
  | .str z, .int i => if z.length ≤ LINE then ofOpt ((L2.atI z.cps.toList i).map fun c => .str ⟨#[c]⟩) else stuck
  | .tup xs, .int i => ofOpt (L2.atI xs i)
  | .lst _ xs, .int i => ofOpt (L2.atI xs i)
  | .ro xs, .int i => ofOpt (L2.atI xs i)
  | .loc n, .int i => locAt n i
  | _, _ => stuck
def cutD (xs : List D) (lo hi : Option Int) : List D := (xs.drop (HT.sIx xs.length 0 lo)).take (HT.sIx xs.length xs.length hi - HT.sIx xs.length 0 lo)
def sliceD (x : D) (lo hi : Option Int) : M D := match x with
  | .tup xs => pure (.tup (cutD xs lo hi))
  | .lst _ xs => pure (.lst true (cutD xs lo hi))
  | .ro xs => pure (.lst true (cutD xs lo hi))
  | _ => stuck
def revO (x : D) (o : Option Int) : M D := match o with
  | some i => if i = -1 then (match x with
    | .tup xs => M.pure (.tup xs.reverse)
    | .lst _ xs => M.pure (.lst true xs.reverse)
    | _ => stuck) else stuck
  | none => stuck
def insI (x : Int) : List Int → List Int
  | [] => [x]
  | y :: r => if x ≤ y then x :: y :: r else y :: insI x r
def sortI : List Int → List Int
  | [] => []
  | x :: r => insI x (sortI r)
def insS (x : Str) : List Str → List Str
  | [] => [x]
  | y :: r => if PySem.Spec.ltCps y.cps.toList x.cps.toList then y :: insS x r else x :: y :: r
def sortS : List Str → List Str
  | [] => []
  | x :: r => insS x (sortS r)
def bLen : List D → M D
  | [.str x] => if x.length ≤ LINE then pure (.int x.length) else stuck
  | [x] => (ofOpt (asSeq x)).bind fun xs => pure (.int xs.length)
  | _ => stuck
def bAbs : List D → M D
  | [.int i] => pure (.int (if i < 0 then -i else i))
  | _ => stuck
def bMin : List D → M D
  | [.int i, .int j] => pure (.int (if j < i then j else i))
  | _ => stuck
def bMax : List D → M D
  | [.int i, .int j] => pure (.int (if j > i then j else i))
  | _ => stuck
def bInt : List D → M D
  | [.int i] => pure (.int i)
  | [.bl b] => pure (.int (if b then 1 else 0))
  | _ => stuck
def bBool : List D → M D
  | [.int i] => pure (.bl (i != 0))
  | [.bl b] => pure (.bl b)
  | _ => stuck
def bSum : List D → M D
  | [.lst _ xs] => (ofOpt (asInts xs)).bind fun ns => pure (.int ns.sum)
  | _ => stuck
def bAny : List D → M D
  | [.lst _ xs] => (ofOpt (asBls xs)).bind fun bs => pure (.bl (bs.any id))
  | _ => stuck
def bAll : List D → M D
  | [.lst _ xs] => (ofOpt (asBls xs)).bind fun bs => pure (.bl (bs.all id))
  | _ => stuck
def bTuple : List D → M D
  | [x] => (ofOpt (asSeq x)).bind fun xs => pure (.tup xs)
  | _ => stuck
def bList : List D → M D
  | [x] => (ofOpt (asSeq x)).bind fun xs => pure (.lst true xs)
  | _ => stuck
def sortD (xs : List D) : Option (List D) := match asInts xs with
  | some ns => some ((sortI ns).map .int)
  | none => (match asStrs xs with
    | some ns => if ns.length < 64 then some ((sortS ns).map .str) else none
    | none => none)
def bSorted : List D → M D
  | [.lst _ xs] => (ofOpt (sortD xs)).bind fun ys => pure (.lst true ys)
  | _ => stuck
def bStr : List D → M D
  | [.int i] => if i.natAbs.log2 < 1920 then pure (.str (toString i)) else stuck
  | [.str x] => pure (.str x)
  | _ => stuck
def bDivmod : List D → M D
  | [.int i, .int j] => if pyDiv i j then pure (.tup [.int (i / j), .int (i % j)]) else stuck
  | _ => stuck
def bfD : Bf → List D → M D
  | .len => bLen
  | .abs => bAbs
  | .min2 => bMin
  | .max2 => bMax
  | .int1 => bInt
  | .bool1 => bBool
  | .sum => bSum
  | .any => bAny
  | .all => bAll
  | .tuple => bTuple
  | .list => bList
  | .sorted => bSorted
  | .str1 => bStr
  | .divmod => bDivmod
def mBits : D → List D → M D
  | .int i, [] => pure (.int (Builtin.Int.intBits i))
  | _, _ => stuck
def mIndex : D → List D → M D
  | .lst _ xs, [y] => (ofOpt (toPy y)).bind fun d => (ofOpt (toPys xs)).bind fun es => (need (SeqAt.shaped d && SeqAt.shaped (.list es))).bind fun _ => (ofOpt (es.findIdx? fun z => PyData.eqv z d)).bind fun j => pure (.int j)
  | _, _ => stuck
def bmD : Bm → D → List D → M D
  | .bitLength => mBits
  | .index => mIndex
  | _ => fun _ _ => stuck
/-- the items that a walk yields -/
def asWalk : D → Option (List D)
  | .str z => some (z.cps.toList.map fun c => .str ⟨#[c]⟩)
  | x => asSeq x
def itSeq : List D → M (List D)
  | [x] => ofOpt (asWalk x)
  | _ => stuck
def itR1 : List D → M (List D)
  | [.int j] => do need (decide (-(2 ^ 62) ≤ j ∧ j < 2 ^ 62)); pure ((List.range j.toNat).map fun (n : Nat) => .int n)
  | _ => stuck
def itR2 : List D → M (List D)
  | [.int i, .int j] => do need (decide (-(2 ^ 62) ≤ i ∧ i < 2 ^ 62 ∧ -(2 ^ 62) ≤ j ∧ j < 2 ^ 62)); pure ((List.range (j - i).toNat).map fun (n : Nat) => .int (i + n))
  | _ => stuck
def itR3 : List D → M (List D)
  | [.int i, .int j, .int c] => do need (decide (c = -1 ∧ -(2 ^ 62) ≤ i ∧ i < 2 ^ 62 ∧ -(2 ^ 62) ≤ j ∧ j < 2 ^ 62)); pure ((List.range (i - j).toNat).map fun (n : Nat) => .int (i + n * c))
  | _ => stuck
def itEnum : List D → M (List D)
  | [.lst _ xs] => pure (xs.zipIdx.map fun p => .tup [.int p.2, p.1])
  | _ => stuck
def itZip : List D → M (List D)
  | [.lst _ xs, .lst _ ys] => pure ((xs.zip ys).map fun p => .tup [p.1, p.2])
  | [.tup xs, .tup ys] => pure ((xs.zip ys).map fun p => .tup [p.1, p.2])
  | [.tup xs, .lst _ ys] => pure ((xs.zip ys).map fun p => .tup [p.1, p.2])
  | _ => stuck
def itRev : List D → M (List D)
  | [x] => ofOpt ((asSeq x).map List.reverse)
  | _ => stuck
def itD : Itb → List D → M (List D)
  | .seq => itSeq
  | .range1 => itR1
  | .range2 => itR2
  | .range3 => itR3
  | .enum => itEnum
  | .zip => itZip
  | .rev => itRev
def isiD (x : D) (t : Ty) : Option Bool := match x, t with
  | .non, _ => some false
  | .bl _, .bool => some true
  | .bl _, .int => some true
  | .bl _, _ => some false
  | .int _, .int => some true
  | .int _, _ => some false
  | .str _, .str => some true
  | .str _, _ => some false
  | .tup _, .tuple => some true
  | .tup _, _ => some false
  | .lst _ _, .list => some true
  | .lst _ _, _ => some false
  | .ins c _, .cls d => some (decide (c = d))
  | _, _ => none
def isiDs (x : D) : List Ty → Option Bool
  | [] => some false
  | t :: r => match isiD x t with
    | some true => some true
    | some false => isiDs x r
    | none => none

mutual
/-- nothing borrowed in it -/
def nob : D → Bool
  | .tup xs => nobs xs
  | .lst fz xs => fz && nobs xs
  | .ro xs => nobs xs
  | .dK _ _ => false
  | .dT _ _ => false
  | .ins _ fs => nobf fs
  | .exc _ fs => nobf fs
  | _ => true
def nobs : List D → Bool
  | [] => true
  | x :: xs => nob x && nobs xs
def nobf : List (Nat × D) → Bool
  | [] => true
  | (_, x) :: xs => nob x && nobf xs
end

/-! ### the evaluator -/
structure Cl where
  call : Nat → List D → M D
  init : Nat → Option (List Nat)
  tab : Str → List (Str × D)

def wipe (env : Env) : List Nat → Env
  | [] => env
  | v :: vs => (wipe env vs).set v .un
/-- nothing is raised within -/
def noX {α : Type} (m : M α) : M α := fun s => match m s with
  | .ok p => .ok p
  | _ => .stuck
def mapO (f : D → M (Option D)) : List D → M (List D)
  | [] => pure []
  | x :: xs => (f x).bind fun o => (mapO f xs).bind fun r => match o with
    | some y => pure (y :: r)
    | none => pure r
def flatO (f : D → M (List D)) : List D → M (List D)
  | [] => pure []
  | x :: xs => (f x).bind fun o => (flatO f xs).bind fun r => pure (o ++ r)
def setSub (x k v : D) : M Unit := match x, k with
  | .loc n, .int i => fun s => match s[n]? with
    | some xs => (match L2.ixN xs.length i with
      | some j => if nob v then .ok ((), s.set n (xs.set j v)) else .stuck
      | none => .stuck)
    | none => .stuck
  | _, _ => stuck
def foldD (f : D → M (Option (List L2.Key × D))) : List D → List (List L2.Key × D) → M (List (List L2.Key × D))
  | [], acc => pure acc
  | x :: xs, acc => (f x).bind fun o => match o with
    | some p => (need (decide (acc.length < LINE))).bind fun _ => foldD f xs (dPut acc p.1 p.2)
    | none => foldD f xs acc
def keyT : D → Option (List L2.Key)
  | .tup xs => keysOf xs
  | _ => none
mutual
def evE (c : Cl) : E → Env → M D
  | .nev, _ => stuck
  | .kget t a b, env => (evE c a env).bind fun x => (evE c b env).bind fun y => match x with
    | .str z => pure (((c.tab t).lookup z).getD y)
    | _ => stuck
  | .dcT t k it cs e f own, env => (evEs c it env).bind fun ds => (itD k ds).bind fun items =>
      (noX (foldD (fun d => (asgT c t d (wipe env own)).bind fun env1 => (evCs c cs env1).bind fun b => if b then (evE c e env1).bind fun y => (evE c f env1).bind fun z => (ofOpt (keyT y)).bind fun k => pure (some (k, z)) else pure none) items [])).bind fun kvs =>
      (need (lenOk kvs.length)).bind fun _ => pure (.dT true kvs)
  | .var i, env => (match env[i]? with
    | some (.val d) => pure d
    | _ => stuck)
  | .own i, env => (match env[i]? with
    | some (.own xs) => pure (.lst false xs)
    | some (.ownK kvs) => pure (.dK false kvs)
    | some (.ownT kvs) => pure (.dT false kvs)
    | _ => stuck)
  | .int i, _ => pure (.int i)
  | .bl b, _ => pure (.bl b)
  | .non, _ => pure .non
  | .str x, _ => pure (.str x)
  | .glob d, _ => pure d
  | .bin o a b, env => (evE c a env).bind fun x => (evE c b env).bind fun y => binD o x y
  | .neg a, env => (evE c a env).bind fun x => match x with
    | .int i => pure (.int (-i))
    | _ => stuck
  | .inv a, env => (evE c a env).bind fun x => match x with
    | .int i => pure (.int (Builtin.bitNot i))
    | _ => stuck
  | .not a, env => (evE c a env).bind fun x => (truM x).bind fun b => pure (.bl (!b))
  | .cmp o a b, env => (evE c a env).bind fun x => (evE c b env).bind fun y => cmpD o x y
  | .cmp2 o o' a b e, env => (evE c a env).bind fun x => (evE c b env).bind fun y => (cmpD o x y).bind fun r => match r with
    | .bl true => (evE c e env).bind fun z => cmpD o' y z
    | .bl false => pure (.bl false)
    | _ => stuck
  | .and a b, env => (evE c a env).bind fun x => (truM x).bind fun k => if k then evE c b env else pure x
  | .or a b, env => (evE c a env).bind fun x => (truM x).bind fun k => if k then pure x else evE c b env
  | .ite t a b, env => (evE c t env).bind fun x => (truM x).bind fun k => if k then evE c a env else evE c b env
  | .tup es, env => (evEs c es env).bind fun ds => (need (lenOk ds.length)).bind fun _ => pure (.tup ds)
  | .lst es, env => (evEs c es env).bind fun ds => (need (lenOk ds.length)).bind fun _ => pure (.lst true ds)
  | .sub a i, env => (evE c a env).bind fun x => (evE c i env).bind fun y => subD x y
  | .slice a lo hi, env => (evE c a env).bind fun x => (evO c lo env).bind fun l => (evO c hi env).bind fun h => sliceD x l h
  | .rev a s, env => (evE c a env).bind fun x => (evO c s env).bind fun o => revO x o
  | .fld a n, env => (evE c a env).bind fun x => match x with
    | .ins _ fs => ofOpt (fs.lookup n)
    | _ => stuck
  | .call f es, env => (evEs c es env).bind fun ds => c.call f ds
  | .callB f es, env => (evEs c es env).bind fun ds => (noX (c.call f ds)).bind fun d => (need (nob d)).bind fun _ => pure d
  | .call0 f, _ => c.call f []
  | .callR f a b, env => (evE c a env).bind fun x => (evE c b env).bind fun y => c.call f [y, x]
  | .make k es, env => (evEs c es env).bind fun ds => (match c.init k with
    | some ns => if ns.length = ds.length then pure (.ins k (ns.zip ds)) else stuck
    | none => stuck)
  | .isi a ts, env => (evE c a env).bind fun x => (ofOpt (isiDs x ts)).bind fun b => pure (.bl b)
  | .bi b es, env => (evEs c es env).bind fun ds => bfD b ds
  | .bm b a es, env => (evE c a env).bind fun x => (noX (evEs c es env)).bind fun ds => bmD b x ds
  | .lc t k it cs e own, env => (evEs c it env).bind fun ds => (itD k ds).bind fun items =>
      (noX (mapO (fun d => (asgT c t d (wipe env own)).bind fun env1 => (evCs c cs env1).bind fun b => if b then (evE c e env1).bind fun y => pure (some y) else pure none) items)).bind fun ys =>
      (need (lenOk ys.length)).bind fun _ => pure (.lst true ys)
  | .lc2 t k it cs t1 k1 it1 cs1 e own own1, env => (evEs c it env).bind fun ds => (itD k ds).bind fun items =>
      (noX (flatO (fun d => (asgT c t d (wipe env own)).bind fun env1 => (evCs c cs env1).bind fun b =>
        if b then (evEs c it1 env1).bind fun ds1 => (itD k1 ds1).bind fun items1 =>
          mapO (fun d1 => (asgT c t1 d1 (wipe env1 own1)).bind fun env2 => (evCs c cs1 env2).bind fun b2 => if b2 then (evE c e env2).bind fun y => pure (some y) else pure none) items1
        else pure []) items)).bind fun ys =>
      (need (lenOk ys.length)).bind fun _ => pure (.lst true ys)
def evEs (c : Cl) : Es → Env → M (List D)
  | .nil, _ => pure []
  | .cons e r, env => (evE c e env).bind fun x => (evEs c r env).bind fun xs => pure (x :: xs)
  | .star e r, env => (evE c e env).bind fun x => (ofOpt (asSeq x)).bind fun xs => (evEs c r env).bind fun ys => pure (xs ++ ys)
/-- a comprehension's tests -/
def evCs (c : Cl) : Es → Env → M Bool
  | .nil, _ => pure true
  | .cons e r, env => (evE c e env).bind fun x => (truM x).bind fun b => if b then evCs c r env else pure false
  | .star _ _, _ => stuck
def evO (c : Cl) : Op → Env → M (Option Int)
  | .no, _ => pure none
  | .ex e, env => (evE c e env).bind fun x => match x with
    | .int i => pure (some i)
    | _ => stuck
def asgT (c : Cl) : T → D → Env → M Env
  | .nm i, d, env => if i < env.length then pure (env.set i (.val d)) else stuck
  | .tp ts, d, env => (match d with
    | .tup xs => asgTs c ts xs env
    | .lst true xs => asgTs c ts xs env
    | _ => stuck)
  | .sub a k, d, env => (noX (evE c a env)).bind fun x => (noX (evE c k env)).bind fun y => (setSub x y d).bind fun _ => pure env
def asgTs (c : Cl) : Ts → List D → Env → M Env
  | .nil, xs, env => (match xs with
    | [] => pure env
    | _ => stuck)
  | .cons t r, xs, env => (match xs with
    | x :: xs => (asgT c t x env).bind fun env1 => asgTs c r xs env1
    | _ => stuck)
end

def tsLen : Ts → Nat
  | .nil => 0
  | .cons _ r => tsLen r + 1
inductive Fl where
  | nx | rt (d : D) | bk | ct
def forL (f : D → Env → M (Fl × Env)) : List D → Env → M (Fl × Env)
  | [], env => pure (.nx, env)
  | x :: xs, env => (f x env).bind fun r => match r with
    | (.nx, env1) => forL f xs env1
    | (.ct, env1) => forL f xs env1
    | (.bk, env1) => pure (.nx, env1)
    | (.rt d, env1) => pure (.rt d, env1)
def whileL (t : Env → M Bool) (f : Env → M (Fl × Env)) : Nat → Env → M (Fl × Env)
  | 0, _ => stuck
  | n + 1, env => (t env).bind fun b => if b then (f env).bind fun r => match r with
    | (.nx, env1) => whileL t f n env1
    | (.ct, env1) => whileL t f n env1
    | (.bk, env1) => pure (.nx, env1)
    | (.rt d, env1) => pure (.rt d, env1)
    else pure (.nx, env)
def newLoc (ds : List D) : M D := fun s => if nobs ds then .ok (.loc s.length, s ++ [ds]) else .stuck
mutual
def evS (c : Cl) (w : Nat) : S → Env → M (Fl × Env)
  | .nev, _ => stuck
  | .asg t e, env => (evE c e env).bind fun x => (asgT c t x env).bind fun env1 => pure (.nx, env1)
  | .asgOwn i e, env => (evE c e env).bind fun x => (match x with
    | .lst true xs => if i < env.length then pure (.nx, env.set i (.own xs)) else stuck
    | _ => stuck)
  | .asgTO i j e f, env => (evE c e env).bind fun x => (evE c f env).bind fun y => (match y with
    | .lst true xs => if i < env.length ∧ j < env.length then pure (.nx, (env.set i (.val x)).set j (.own xs)) else stuck
    | _ => stuck)
  | .freeze i, env => (match env[i]? with
    | some (.own xs) => pure (.nx, env.set i (.val (.lst true xs)))
    | some (.ownK xs) => pure (.nx, env.set i (.val (.dK true xs)))
    | some (.ownT xs) => pure (.nx, env.set i (.val (.dT true xs)))
    | _ => stuck)
  | .app i e, env => (match env[i]? with
    | some (.own xs) => (evE c e env).bind fun x => (need (decide (xs.length < LINE))).bind fun _ => pure (.nx, env.set i (.own (xs ++ [x])))
    | _ => stuck)
  | .put i k e, env => (evE c e env).bind fun x => (match env[i]? with
    | some (.own xs) => (evE c k env).bind fun y => (match y with
      | .int j => (ofOpt (L2.ixN xs.length j)).bind fun n => pure (.nx, env.set i (.own (xs.set n x)))
      | _ => stuck)
    | _ => stuck)
  | .expr e, env => (evE c e env).bind fun _ => pure (.nx, env)
  | .ret e, env => (evE c e env).bind fun x => pure (.rt x, env)
  | .retN, env => pure (.rt .non, env)
  | .retLoc es, env => (evEs c es env).bind fun ds => (need (lenOk ds.length)).bind fun _ => (newLoc ds).bind fun d => pure (.rt d, env)
  | .ite t a b, env => (evE c t env).bind fun x => (truM x).bind fun k => if k then evSs c w a env else evSs c w b env
  | .loop t k it b, env => (evEs c it env).bind fun ds => (itD k ds).bind fun items => forL (fun d env1 => (asgT c t d env1).bind fun env2 => evSs c w b env2) items env
  | .whil t b, env => whileL (fun env1 => (evE c t env1).bind truM) (evSs c w b) w env
  | .brk, env => pure (.bk, env)
  | .cont, env => pure (.ct, env)
  | .pass, env => pure (.nx, env)
def evSs (c : Cl) (w : Nat) : Ss → Env → M (Fl × Env)
  | .nil, env => pure (.nx, env)
  | .cons s r, env => (evS c w s env).bind fun x => match x with
    | (.nx, env1) => evSs c w r env1
    | (.rt d, env1) => pure (.rt d, env1)
    | (.bk, env1) => pure (.bk, env1)
    | (.ct, env1) => pure (.ct, env1)
end

/-- a def: how many parameters, how many slots, its body -/
structure Fd where
  np : Nat
  ns : Nat
  body : Ss
structure Pg where
  fd : Nat → Option Fd
  init : Nat → Option (List Nat)
  tab : Str → List (Str × D)
def retOf : Fl × Env → M D
  | (.rt d, _) => pure d
  | (.nx, _) => pure .non
  | _ => stuck
/-- a def called, k calls deep at most, w turns of a while at most -/
def callF (p : Pg) (w : Nat) : Nat → Nat → List D → M D
  | 0, _, _ => stuck
  | k + 1, f, ds => match p.fd f with
    | some fd => if ds.length = fd.np ∧ fd.np ≤ fd.ns then (evSs ⟨callF p w k, p.init, p.tab⟩ w fd.body (ds.map .val ++ List.replicate (fd.ns - fd.np) .un)).bind retOf else stuck
    | none => stuck
end Bc

set_option linter.all false
set_option maxRecDepth 100000
set_option maxHeartbeats 1000000
namespace Bc
set_option autoImplicit false
open PySem PySem.Spec L2

/-- where things stand: classes, defs, attributes' names -/
structure Sx where
  K : PySem.W.Frag
  ca : Nat → Addr
  fa : Nat → Addr
  an : Nat → Str
  xc : Nat → Value
/-- the frozen part, the borrowed part, where the store's lists stand -/
structure Rl where
  Fz : Hp
  Bz : Hp
  mu : List Addr

mutual
inductive Rep (X : Sx) (R : Rl) : V → D → Prop
  | non : Rep X R .non .non
  | bl (b : Bool) : Rep X R (.bl b) (.bl b)
  | int (i : Int) : Rep X R (.int i) (.int i)
  | str (x : Str) : Rep X R (.str x) (.str x)
  | tup {a : Addr} {vs : List V} {ds : List D} : R.Fz a = some (.tup vs) → Reps X R vs ds → Rep X R (.ref a) (.tup ds)
  | dK {a : Addr} {vs : List (L2.Key × V)} {ds : List (L2.Key × D)} : R.Fz a = some (.dK vs) → Repk X R vs ds → Rep X R (.ref a) (.dK true ds)
  | dT {a : Addr} {vs : List (List L2.Key × V)} {ds : List (List L2.Key × D)} : R.Fz a = some (.dT vs) → Rept X R vs ds → Rep X R (.ref a) (.dT true ds)
  | lst {a : Addr} {vs : List V} {ds : List D} : R.Fz a = some (.lst vs) → Reps X R vs ds → Rep X R (.ref a) (.lst true ds)
  | bor {a : Addr} {vs : List V} {ds : List D} : R.Bz a = some (.lst vs) → Reps X R vs ds → Rep X R (.ref a) (.lst false ds)
  | ro {a : Addr} {vs : List V} {ds : List D} : SqL X.K R.Fz a vs → Reps X R vs ds → Rep X R (.ref a) (.ro ds)
  | ins {a dx : Addr} {c : Nat} {fs : List (Str × V)} {ds : List (Nat × D)} : R.Fz a = some (.ins (X.ca c) dx fs) → Repf X R fs ds → Rep X R (.ref a) (.ins c ds)
  | loc {n : Nat} {a : Addr} : R.mu[n]? = some a → Rep X R (.ref a) (.loc n)
inductive Reps (X : Sx) (R : Rl) : List V → List D → Prop
  | nil : Reps X R [] []
  | cons {v : V} {vs : List V} {d : D} {ds : List D} : Rep X R v d → Reps X R vs ds → Reps X R (v :: vs) (d :: ds)
inductive Repk (X : Sx) (R : Rl) : List (L2.Key × V) → List (L2.Key × D) → Prop
  | nil : Repk X R [] []
  | cons {k : L2.Key} {v : V} {vs : List (L2.Key × V)} {d : D} {ds : List (L2.Key × D)} : Rep X R v d → Repk X R vs ds → Repk X R ((k, v) :: vs) ((k, d) :: ds)
inductive Rept (X : Sx) (R : Rl) : List (List L2.Key × V) → List (List L2.Key × D) → Prop
  | nil : Rept X R [] []
  | cons {k : List L2.Key} {v : V} {vs : List (List L2.Key × V)} {d : D} {ds : List (List L2.Key × D)} : Rep X R v d → Rept X R vs ds → Rept X R ((k, v) :: vs) ((k, d) :: ds)
inductive Repf (X : Sx) (R : Rl) : List (Str × V) → List (Nat × D) → Prop
  | nil : Repf X R [] []
  | cons {x : Str} {v : V} {fs : List (Str × V)} {n : Nat} {d : D} {ds : List (Nat × D)} : x = X.an n → Rep X R v d → Repf X R fs ds → Repf X R ((x, v) :: fs) ((n, d) :: ds)
end

/-! ### growing -/
def HLe (H H' : Hp) : Prop := ∀ a o, H a = some o → H' a = some o
theorem HLe.refl (H : Hp) : HLe H H := fun _ _ e => e
theorem HLe.trans {A B C : Hp} (h : HLe A B) (k : HLe B C) : HLe A C := fun a o e => k a o (h a o e)
structure RLe (R R' : Rl) : Prop where
  fz : HLe R.Fz R'.Fz
  bz : HLe R.Bz R'.Bz
  mu : ∀ (n : Nat) (a : Addr), R.mu[n]? = some a → R'.mu[n]? = some a
theorem RLe.refl (R : Rl) : RLe R R := ⟨HLe.refl _, HLe.refl _, fun _ _ e => e⟩
theorem RLe.trans {A B C : Rl} (h : RLe A B) (k : RLe B C) : RLe A C := ⟨h.fz.trans k.fz, h.bz.trans k.bz, fun n a e => k.mu n a (h.mu n a e)⟩

theorem sqT_le {K : PySem.W.Frag} {H H' : Hp} {a : Addr} {xs : List V} (e : HLe H H') (h : SqT K H a xs) : SqT K H' a xs := by
  rcases h with (h | ⟨o, h⟩) | h
  · exact .inl (.inl (e _ _ h))
  · exact .inl (.inr ⟨o, e _ _ h⟩)
  · exact .inr h
theorem sqL_le {K : PySem.W.Frag} {H H' : Hp} {a : Addr} {xs : List V} (e : HLe H H') (h : SqL K H a xs) : SqL K H' a xs := by
  rcases h with (h | ⟨o, h⟩) | h
  · exact .inl (.inl (e _ _ h))
  · exact .inl (.inr ⟨o, e _ _ h⟩)
  · exact .inr h

section
variable {X : Sx} {R R' : Rl}
mutual
theorem Rep.mono (le : RLe R R') : ∀ (d : D) {v : V}, Rep X R v d → Rep X R' v d
  | .non, _, h => by cases h; exact .non
  | .bl b, _, h => by cases h; exact .bl b
  | .int i, _, h => by cases h; exact .int i
  | .str x, _, h => by cases h; exact .str x
  | .tup ds, _, h => by cases h with | tup e r => exact .tup (le.fz _ _ e) (Reps.mono le ds r)
  | .lst true ds, _, h => by cases h with | lst e r => exact .lst (le.fz _ _ e) (Reps.mono le ds r)
  | .lst false ds, _, h => by cases h with | bor e r => exact .bor (le.bz _ _ e) (Reps.mono le ds r)
  | .ro ds, _, h => by cases h with | ro e r => exact .ro (sqL_le le.fz e) (Reps.mono le ds r)
  | .dK true ds, _, h => by cases h with | dK e r => exact .dK (le.fz _ _ e) (Repk.mono le ds r)
  | .dT true ds, _, h => by cases h with | dT e r => exact .dT (le.fz _ _ e) (Rept.mono le ds r)
  | .dK false _, _, h => by cases h
  | .dT false _, _, h => by cases h
  | .ins c ds, _, h => by cases h with | ins e r => exact .ins (le.fz _ _ e) (Repf.mono le ds r)
  | .exc _ _, _, h => by cases h
  | .cls _, _, h => by cases h
  | .fn _, _, h => by cases h
  | .loc n, _, h => by cases h with | loc e => exact .loc (le.mu _ _ e)
theorem Reps.mono (le : RLe R R') : ∀ (ds : List D) {vs : List V}, Reps X R vs ds → Reps X R' vs ds
  | [], _, h => by cases h; exact .nil
  | d :: ds, _, h => by cases h with | cons a b => exact .cons (Rep.mono le d a) (Reps.mono le ds b)
theorem Repk.mono (le : RLe R R') : ∀ (ds : List (L2.Key × D)) {vs : List (L2.Key × V)}, Repk X R vs ds → Repk X R' vs ds
  | [], _, h => by cases h; exact .nil
  | (n, d) :: ds, _, h => by cases h with | cons a b => exact .cons (Rep.mono le d a) (Repk.mono le ds b)
theorem Rept.mono (le : RLe R R') : ∀ (ds : List (List L2.Key × D)) {vs : List (List L2.Key × V)}, Rept X R vs ds → Rept X R' vs ds
  | [], _, h => by cases h; exact .nil
  | (n, d) :: ds, _, h => by cases h with | cons a b => exact .cons (Rep.mono le d a) (Rept.mono le ds b)
theorem Repf.mono (le : RLe R R') : ∀ (ds : List (Nat × D)) {vs : List (Str × V)}, Repf X R vs ds → Repf X R' vs ds
  | [], _, h => by cases h; exact .nil
  | (n, d) :: ds, _, h => by cases h with | cons e a b => exact .cons e (Rep.mono le d a) (Repf.mono le ds b)
end
mutual
/-- what has nothing borrowed stands without the borrowed part -/
theorem Rep.nob (B : Hp) : ∀ (d : D) {v : V}, Bc.nob d = true → Rep X R v d → Rep X { R with Bz := B } v d
  | .non, _, _, h => by cases h; exact .non
  | .bl b, _, _, h => by cases h; exact .bl b
  | .int i, _, _, h => by cases h; exact .int i
  | .str x, _, _, h => by cases h; exact .str x
  | .tup ds, _, n, h => by cases h with | tup e r => exact .tup e (Reps.nob B ds (by simpa [Bc.nob] using n) r)
  | .lst true ds, _, n, h => by cases h with | lst e r => exact .lst e (Reps.nob B ds (by simpa [Bc.nob] using n) r)
  | .lst false ds, _, n, h => by simp [Bc.nob] at n
  | .ro ds, _, n, h => by cases h with | ro e r => exact .ro e (Reps.nob B ds (by simpa [Bc.nob] using n) r)
  | .dK _ _, _, n, h => by simp [Bc.nob] at n
  | .dT _ _, _, n, h => by simp [Bc.nob] at n
  | .ins c ds, _, n, h => by cases h with | ins e r => exact .ins e (Repf.nob B ds (by simpa [Bc.nob] using n) r)
  | .exc _ _, _, _, h => by cases h
  | .cls _, _, _, h => by cases h
  | .fn _, _, _, h => by cases h
  | .loc n, _, _, h => by cases h with | loc e => exact .loc e
theorem Reps.nob (B : Hp) : ∀ (ds : List D) {vs : List V}, Bc.nobs ds = true → Reps X R vs ds → Reps X { R with Bz := B } vs ds
  | [], _, _, h => by cases h; exact .nil
  | d :: ds, _, n, h => by
    cases h with
    | cons a b =>
      have n2 : Bc.nob d = true ∧ Bc.nobs ds = true := by simpa [Bc.nobs] using n
      exact .cons (Rep.nob B d n2.1 a) (Reps.nob B ds n2.2 b)
theorem Repf.nob (B : Hp) : ∀ (ds : List (Nat × D)) {vs : List (Str × V)}, Bc.nobf ds = true → Repf X R vs ds → Repf X { R with Bz := B } vs ds
  | [], _, _, h => by cases h; exact .nil
  | (m, d) :: ds, _, n, h => by
    cases h with
    | cons e a b =>
      have n2 : Bc.nob d = true ∧ Bc.nobf ds = true := by simpa [Bc.nobf] using n
      exact .cons e (Rep.nob B d n2.1 a) (Repf.nob B ds n2.2 b)
end
theorem Reps.length : ∀ {vs : List V} {ds : List D}, Reps X R vs ds → vs.length = ds.length
  | _, _, .nil => rfl
  | _, _, .cons _ r => congrArg Nat.succ (Reps.length r)
theorem Reps.get : ∀ {vs : List V} {ds : List D} {i : Nat} {d : D}, Reps X R vs ds → ds[i]? = some d → ∃ v, vs[i]? = some v ∧ Rep X R v d
  | _, _, _, _, .nil, e => by simp at e
  | _, _, 0, _, .cons r _, e => by simp at e; subst e; exact ⟨_, rfl, r⟩
  | _, _, i + 1, _, .cons _ t, e => by
    obtain ⟨v, h1, h2⟩ := Reps.get (i := i) t (by simpa using e)
    exact ⟨v, by simpa using h1, h2⟩
theorem Reps.set {x : V} {u : D} (r : Rep X R x u) : ∀ {xs : List V} {us : List D} (i : Nat), Reps X R xs us → Reps X R (xs.set i x) (us.set i u)
  | _, _, _, .nil => .nil
  | _, _, 0, .cons _ t => .cons r t
  | _, _, i + 1, .cons q t => .cons q (Reps.set r i t)
theorem Reps.append : ∀ {xs ys : List V} {us ws : List D}, Reps X R xs us → Reps X R ys ws → Reps X R (xs ++ ys) (us ++ ws)
  | _, _, _, _, .nil, s => s
  | _, _, _, _, .cons r t, s => .cons r (Reps.append t s)
theorem Reps.take : ∀ {xs : List V} {us : List D} (n : Nat), Reps X R xs us → Reps X R (xs.take n) (us.take n)
  | _, _, 0, _ => .nil
  | _, _, _ + 1, .nil => .nil
  | _, _, n + 1, .cons r t => .cons r (Reps.take n t)
theorem Reps.drop : ∀ {xs : List V} {us : List D} (n : Nat), Reps X R xs us → Reps X R (xs.drop n) (us.drop n)
  | _, _, 0, r => r
  | _, _, _ + 1, .nil => .nil
  | _, _, n + 1, .cons _ t => Reps.drop n t
theorem Reps.reverse {xs : List V} {us : List D} (h : Reps X R xs us) : Reps X R xs.reverse us.reverse := by
  induction us generalizing xs with
  | nil => cases h; exact .nil
  | cons d ds ih =>
    cases h with
    | cons a b => rw [List.reverse_cons, List.reverse_cons]; exact (ih b).append (.cons a .nil)
theorem Reps.rep {xs : List V} {us : List D} (h : Reps X R xs us) : ∀ k : Nat, Reps X R (List.replicate k xs).flatten (List.replicate k us).flatten
  | 0 => .nil
  | k + 1 => by rw [List.replicate_succ, List.replicate_succ, List.flatten_cons, List.flatten_cons]; exact h.append (Reps.rep h k)
theorem Reps.ints : ∀ {ds : List D} {vs : List V} {ns : List Int}, Reps X R vs ds → asInts ds = some ns → vs = ns.map V.int
  | _, _, _, .nil, e => by cases e; rfl
  | _, _, ns, .cons (d := d) (ds := ds) r t, e => by
    cases r <;> try (simp [asInts] at e)
    rename_i i
    obtain ⟨ms, e1, e2⟩ := e
    subst e2
    rw [Reps.ints t e1]; rfl
theorem Reps.strs : ∀ {ds : List D} {vs : List V} {ns : List Str}, Reps X R vs ds → asStrs ds = some ns → vs = ns.map V.str
  | _, _, _, .nil, e => by cases e; rfl
  | _, _, ns, .cons (d := d) (ds := ds) r t, e => by
    cases r <;> try (simp [asStrs] at e)
    obtain ⟨ms, e1, e2⟩ := e
    subst e2
    rw [Reps.strs t e1]; rfl
theorem Reps.bls : ∀ {ds : List D} {vs : List V} {ns : List Bool}, Reps X R vs ds → asBls ds = some ns → vs = ns.map V.bl
  | _, _, _, .nil, e => by cases e; rfl
  | _, _, ns, .cons (d := d) (ds := ds) r t, e => by
    cases r <;> try (simp [asBls] at e)
    obtain ⟨ms, e1, e2⟩ := e
    subst e2
    rw [Reps.bls t e1]; rfl
theorem Reps.of_ints (ns : List Int) : Reps X R (ns.map V.int) (ns.map D.int) := by
  induction ns with
  | nil => exact .nil
  | cons n ns ih => exact .cons (.int n) ih
end

/-- the state's frozen and borrowed parts stand; the store's lists -/
structure StOk (X : Sx) (R : Rl) (H : Hp) (sto : Sto) : Prop where
  fz : HLe R.Fz H
  bz : HLe R.Bz H
  len : R.mu.length = sto.length
  nd : R.mu.Nodup
  at_ : ∀ (n : Nat) (a : Addr) (ds : List D), R.mu[n]? = some a → sto[n]? = some ds → R.Fz a = none ∧ R.Bz a = none ∧ nobs ds = true ∧ ∃ vs, H a = some (.lst vs) ∧ Reps X { R with Bz := fun _ => none } vs ds
structure Grow (R : Rl) (H : Hp) (R' : Rl) (H' : Hp) : Prop where
  le : RLe R R'
  eB : R'.Bz = R.Bz
  kept : ∀ a o, H a = some o → a ∉ R.mu → H' a = some o ∧ R'.Fz a = R.Fz a
  muN : ∀ a, a ∈ R'.mu → a ∈ R.mu ∨ H a = none
  there : ∀ a, a ∈ R.mu → H a ≠ none → H' a ≠ none
theorem Grow.refl (R : Rl) (H : Hp) : Grow R H R H := ⟨RLe.refl _, rfl, fun _ _ e _ => ⟨e, rfl⟩, fun _ h => .inl h, fun _ _ h => h⟩
theorem Grow.trans {R R1 R2 : Rl} {H H1 H2 : Hp} (g : Grow R H R1 H1) (k : Grow R1 H1 R2 H2) : Grow R H R2 H2 where
  le := g.le.trans k.le
  eB := k.eB.trans g.eB
  kept := fun a o e hm => by
    obtain ⟨e1, f1⟩ := g.kept a o e hm
    have hm1 : a ∉ R1.mu := fun h => by
      rcases g.muN a h with h | h
      · exact hm h
      · rw [e] at h; cases h
    obtain ⟨e2, f2⟩ := k.kept a o e1 hm1
    exact ⟨e2, f2.trans f1⟩
  muN := fun a h => by
    rcases k.muN a h with h | h
    · exact g.muN a h
    · by_cases hm : a ∈ R.mu
      · exact .inl hm
      · refine .inr ?_
        cases e : H a with
        | none => rfl
        | some o =>
          obtain ⟨e1, _⟩ := g.kept a o e hm
          rw [e1] at h; cases h
  there := fun a h e => k.there a (by
    obtain ⟨n, hn⟩ := List.getElem?_of_mem h
    exact List.mem_of_getElem? (g.le.mu n a hn)) (g.there a h e)

/-- a new object, frozen at once -/
def Rl.put (R : Rl) (p : Addr) (o : HO) : Rl := { R with Fz := upd R.Fz p o }
theorem fz_none {X : Sx} {R : Rl} {H : Hp} {sto : Sto} (S : StOk X R H sto) {p : Addr} (hp : H p = none) : R.Fz p = none := by
  cases e : R.Fz p with
  | none => rfl
  | some o => rw [S.fz p o e] at hp; cases hp
theorem put_le {R : Rl} {p : Addr} {o : HO} (hp : R.Fz p = none) : RLe R (R.put p o) := by
  refine ⟨fun a q e => ?_, HLe.refl _, fun _ _ e => e⟩
  show upd R.Fz p o a = some q
  rw [upd_ne (ne_of_none e hp)]; exact e
theorem put_grow {X : Sx} {R : Rl} {H : Hp} {sto : Sto} (S : StOk X R H sto) {p : Addr} {o : HO} (hp : H p = none) : Grow R H (R.put p o) (upd H p o) := by
  refine ⟨put_le (fz_none S hp), rfl, fun a q e _ => ?_, fun _ h => .inl h, fun a _ h => ?_⟩
  · have ne := ne_of_none e hp
    exact ⟨by rw [upd_ne ne]; exact e, upd_ne ne⟩
  · by_cases e : a = p
    · rw [e, upd_same]; intro z; cases z
    · rw [upd_ne e]; exact h
theorem put_st {X : Sx} {R : Rl} {H : Hp} {sto : Sto} (S : StOk X R H sto) {p : Addr} {o : HO} (hp : H p = none) : StOk X (R.put p o) (upd H p o) sto := by
  refine ⟨fun a q e => ?_, fun a q e => ?_, S.len, S.nd, fun n a ds e1 e2 => ?_⟩
  · have e : upd R.Fz p o a = some q := e
    by_cases h : a = p
    · subst h; rw [upd_same] at e ⊢; exact e
    · rw [upd_ne h] at e ⊢; exact S.fz a q e
  · rw [upd_ne (ne_of_none (S.bz a q e) hp)]; exact S.bz a q e
  · obtain ⟨f, b, nb, vs, e3, r⟩ := S.at_ n a ds e1 e2
    have ne := ne_of_none e3 hp
    refine ⟨?_, b, nb, vs, by rw [upd_ne ne]; exact e3, Reps.mono (R := { R with Bz := fun _ => none }) (R' := { R.put p o with Bz := fun _ => none }) ⟨(put_le (fz_none S hp)).fz, HLe.refl _, fun _ _ e => e⟩ _ r⟩
    show upd R.Fz p o a = none
    rw [upd_ne ne]; exact f

/-! ### the frame -/
def SlotOk (X : Sx) (R : Rl) (H : Hp) (ov : Option (Option V)) : Slot → Prop
  | .un => True
  | .val d => ∃ v, ov = some (some v) ∧ Rep X R v d
  | .own ds => ∃ a vs, ov = some (some (.ref a)) ∧ H a = some (.lst vs) ∧ R.Fz a = none ∧ R.Bz a = none ∧ a ∉ R.mu ∧ Reps X R vs ds
  | _ => False
def isOwn : Slot → Bool
  | .own _ => true
  | .ownK _ => true
  | .ownT _ => true
  | _ => false
structure EnvOk (X : Sx) (R : Rl) (H : Hp) (σ : St) (env : Env) : Prop where
  len : σ.length = env.length
  at_ : ∀ (i : Nat) (s : Slot), env[i]? = some s → SlotOk X R H (σ[i]?) s
  sep : ∀ (i j : Nat) (si sj : Slot) (a : Addr), env[i]? = some si → env[j]? = some sj → isOwn si = true → isOwn sj = true → σ[i]? = some (some (.ref a)) → σ[j]? = some (some (.ref a)) → i = j
theorem SlotOk.grow {X : Sx} {R R' : Rl} {H H' : Hp} {ov : Option (Option V)} {s : Slot} (g : Grow R H R' H') (h : SlotOk X R H ov s) : SlotOk X R' H' ov s := by
  cases s with
  | un => trivial
  | val d =>
    obtain ⟨v, e, r⟩ := h
    exact ⟨v, e, r.mono g.le⟩
  | own ds =>
    obtain ⟨a, vs, e, eh, f, b, m, r⟩ := h
    obtain ⟨k1, k2⟩ := g.kept a _ eh m
    refine ⟨a, vs, e, k1, k2.trans f, by rw [g.eB]; exact b, fun hm => ?_, r.mono g.le⟩
    rcases g.muN a hm with z | z
    · exact m z
    · rw [eh] at z; cases z
  | ownK _ => exact h.elim
  | ownT _ => exact h.elim
theorem EnvOk.grow {X : Sx} {R R' : Rl} {H H' : Hp} {σ : St} {env : Env} (g : Grow R H R' H') (h : EnvOk X R H σ env) : EnvOk X R' H' σ env :=
  ⟨h.len, fun i s e => (h.at_ i s e).grow g, h.sep⟩

/-! ### outcomes -/
def Out {α : Type} (W : Nat → List (Nat × D) → Sto → Prop) (r : Bc.R (α × Sto)) (k : α → Sto → Prop) : Prop := match r with
  | .ok (a, s) => k a s
  | .exc c fs s => W c fs s
  | .stuck => False
section
variable {α β : Type} {W : Nat → List (Nat × D) → Sto → Prop}
theorem Out.bind {m : M α} {f : α → M β} {s : Sto} {k : β → Sto → Prop} (h : Out W ((m.bind f) s) k) : Out W (m s) (fun a s' => Out W (f a s') k) := by
  unfold M.bind at h
  cases e : m s with
  | ok p => obtain ⟨a, s'⟩ := p; rw [e] at h; exact h
  | exc c fs s' => rw [e] at h; exact h
  | stuck => rw [e] at h; exact h
theorem Out.imp {r : Bc.R (α × Sto)} {k k' : α → Sto → Prop} {W' : Nat → List (Nat × D) → Sto → Prop} (h : Out W r k) (hk : ∀ a s, k a s → k' a s) (hw : ∀ c fs s, W c fs s → W' c fs s) : Out W' r k' := by
  cases r with
  | ok p => exact hk _ _ h
  | exc c fs s => exact hw _ _ _ h
  | stuck => exact h
theorem Out.unbind {m : M α} {f : α → M β} {s : Sto} {k : β → Sto → Prop} {k' : α → Sto → Prop} (h : Out W (m s) k') (hk : ∀ a s', k' a s' → Out W (f a s') k) : Out W ((m.bind f) s) k := by
  unfold M.bind
  cases e : m s with
  | ok p => rw [e] at h; exact hk _ _ h
  | exc _ _ _ => rw [e] at h; exact h
  | stuck => rw [e] at h; exact h
theorem Out.pure {a : α} {s : Sto} {k : α → Sto → Prop} (h : Out W ((M.pure a) s) k) : k a s := h
theorem Out.need {b : Bool} {s : Sto} {k : Unit → Sto → Prop} (h : Out W (need b s) k) : b = true ∧ k () s := by
  unfold Bc.need at h
  cases b with
  | true => exact ⟨rfl, h⟩
  | false => exact h.elim
theorem Out.needB {b : Bool} {f : Unit → M β} {s : Sto} {k : β → Sto → Prop} (h : Out W (((Bc.need b).bind f) s) k) : b = true ∧ Out W (f () s) k := by
  have := Out.need (Out.bind h)
  exact this
theorem Out.ofOpt {o : Option α} {s : Sto} {k : α → Sto → Prop} (h : Out W (ofOpt o s) k) : ∃ a, o = some a ∧ k a s := by
  cases o with
  | none => exact h.elim
  | some a => exact ⟨a, rfl, h⟩
theorem Out.ofOptB {o : Option α} {f : α → M β} {s : Sto} {k : β → Sto → Prop} (h : Out W (((Bc.ofOpt o).bind f) s) k) : ∃ a, o = some a ∧ Out W (f a s) k := Out.ofOpt (Out.bind h)
theorem Out.conv {r r' : Bc.R (α × Sto)} {k : α → Sto → Prop} (e : r = r') (h : Out W r k) : Out W r' k := e ▸ h
theorem bind_one {γ : Type} (m : M α) (g : List α → M γ) (s : Sto) : ((m.bind fun x => M.pure [x]).bind g) s = (m.bind fun x => g [x]) s := by
  unfold M.bind
  cases m s <;> rfl
abbrev noW : Nat → List (Nat × D) → Sto → Prop := fun _ _ _ => False
theorem Out.noX {W' : Nat → List (Nat × D) → Sto → Prop} {m : M α} {s : Sto} {k : α → Sto → Prop} (h : Out W (noX m s) k) : Out W' (m s) k := by
  unfold Bc.noX at h
  cases e : m s with
  | ok p => rw [e] at h; exact h
  | exc _ _ _ => rw [e] at h; exact h.elim
  | stuck => rw [e] at h; exact h
theorem Out.stuck' {s : Sto} {k : α → Sto → Prop} (h : Out W ((stuck : M α) s) k) : False := h
end
end Bc

set_option linter.all false
set_option autoImplicit false
set_option maxRecDepth 100000
set_option maxHeartbeats 1000000
namespace Bc
open PySem PySem.Spec PyProof.Rows L2
/-- t * 1, and () * k: t itself -/
theorem tuple_mul1 (l : Addr) (items : Array Value) (n : Nat) (dd : Option Addr) (sl : Array (Option Value)) (x : Int) (u : Tok) (c0 : (decide (x < -(2 ^ 63)) || decide (x ≥ 2 ^ 63)) = false) (c1 : (items.isEmpty || x == 1) = true) :
    Meets (Builtin.«tuple.__mul__» ⟨[.ref l, .int x u], []⟩) (fun _ R s => s.heap.get? l = some { cls := .type "tuple", dict := dd, data := .seq items n, slots := sl } ∧ R (.ok (.ret (Value.ref l))) s) :=
  .of_wp fun prog w A R s h => by
    obtain ⟨hp, g, d, tk, os⟩ := s
    obtain ⟨hl, h⟩ := h
    have f1 := AutoSeq1.idx_int
    wp_walk using wpAny_loadPart' hl
    repeat (first
      | (refine wpAny_ite_false (decide_eq_false (by rw [c0]; exact Bool.false_ne_true)) ?_; wp_walk using wpAny_loadPart' hl)
      | (refine wpAny_ite_true (decide_eq_true (by rw [c1])) ?_; wp_walk using wpAny_loadPart' hl))
    exact ⟨_, rfl, h⟩
/-- t * 0 -/
theorem tuple_mul0 (l : Addr) (items : Array Value) (n : Nat) (dd : Option Addr) (sl : Array (Option Value)) (u : Tok) (c1 : (items.isEmpty || (0 : Int) == 1) = false) :
    Meets (Builtin.«tuple.__mul__» ⟨[.ref l, .int 0 u], []⟩) (fun _ R s => s.heap.get? l = some { cls := .type "tuple", dict := dd, data := .seq items n, slots := sl } ∧
      R (.ok (.ret (Value.ref s.heap.objs.size))) { s with heap := s.heap.push { cls := Value.type "tuple", data := Data.seq #[] }, toks := s.toks }) :=
  .of_wp fun prog w A R s h => by
    obtain ⟨hp, g, d, tk, os⟩ := s
    obtain ⟨hl, h⟩ := h
    have f1 := AutoSeq1.idx_int
    wp_walk using wpAny_loadPart' hl
    repeat (first
      | (refine wpAny_ite_false (decide_eq_false (by decide)) ?_; wp_walk using wpAny_loadPart' hl)
      | (refine wpAny_ite_false (decide_eq_false (by rw [c1]; exact Bool.false_ne_true)) ?_; wp_walk using wpAny_loadPart' hl)
      | (refine wpAny_ite_true (decide_eq_true rfl) ?_; wp_walk using wpAny_loadPart' hl))
    exact ⟨_, rfl, h⟩
def rRepA (K : PySem.W.Frag) : R2 := fun x y H Q => ∃ l k xs, x = .ref l ∧ y = .int k ∧ SqT K H l xs ∧ 0 ≤ k ∧ k < 1000000 ∧ xs.length * k.toNat ≤ sizeLine ∧
  ((xs = [] ∨ k = 1) → Q (.ref l) H) ∧ ∀ p, H p = none → Q (.ref p) (upd H p (.tup (List.replicate k.toNat xs).flatten))
theorem op_repA {X : Cx} : OpR X (binaryOp .Mult) (rRepA X.K) := by
  intro pins s σ H x y v u Q I rx ry h
  obtain ⟨l, k, xs, rfl, rfl, hT, h1, h2, hz, q1, q⟩ := h
  cases rx
  obtain ⟨t, rfl⟩ := ry
  obtain ⟨its, r, ⟨⟨cls, dd, data, sl⟩, ho, hc, n, hd⟩, hs⟩ := I.tuple hT
  simp only at hc hd
  subst hc hd
  have hle : its.length = xs.length := r.length.symm
  have hsz0 : its.toArray.size = xs.length := by rw [List.size_toArray, hle]
  have c0 : (decide (k < -(2 ^ 63)) || decide (k ≥ 2 ^ 63)) = false := by
    rw [decide_eq_false (by omega), decide_eq_false (by omega)] <;> rfl
  have emp : its.toArray.isEmpty = true ↔ xs = [] := by
    rw [show its.toArray.isEmpty = its.isEmpty by cases its <;> rfl, List.isEmpty_iff]
    exact ⟨fun e => List.eq_nil_of_length_eq_zero (by rw [← hle, e]; rfl), fun e => List.eq_nil_of_length_eq_zero (by rw [hle, e]; rfl)⟩
  have road : ∀ Q' : Value → Shared → Prop, wpAny (model X.prog X.w) X.A (call (.builtin "tuple.__mul__") [.ref l, .int k t]) Q' X.xe s → wpAny (model X.prog X.w) X.A (binaryOp .Mult (.ref l) (.int k t)) Q' X.xe s := fun Q' hq =>
    wpAny_binaryOp_repeat_ref (T := "tuple") (U := "int") (by decide) ⟨_, ho, rfl⟩ (fun s' => typeIs_int s' k t) noFill_tuple_mul F.fills_int_mul F.slot_int_rmul repeat_tuple F.slot_int_index.lookup
      (call_meets F.slot_int_rmul (typeIs_int s k t) F.entry_int_rmul (F.args_int_rmul_2 _ _) (int_rmul_tuple k t l its.toArray n dd sl) ⟨ho, rfl, ⟨_, ho, rfl⟩, hq⟩)
  have new : ∀ ys : List V, ys.length ≤ sizeLine → ∀ its2 : List Value, Vals ys its2 → (∀ p, H p = none → Q (.ref p) (upd H p (.tup ys))) → EP X pins σ Q (.ref s.heap.objs.size) { s with heap := s.heap.push { cls := Value.type "tuple", data := Data.seq its2.toArray }, toks := s.toks } := fun ys hy its2 r2 q2 =>
    ⟨.ref s.heap.objs.size, _, I.laid (t' := s.toks) (o := .tup ys) (fun b ob q => Heap.get?_push_of_some _ q) (Nat.le_refl _) ⟨hy, _, r2, IsTup.new _ _⟩, rfl, q2 _ (I.hok.fresh (Nat.le_refl _))⟩
  have flen : (List.replicate k.toNat xs).flatten.length ≤ sizeLine := by
    rw [PyProof.Rows.lm_len_rep_flat, Nat.mul_comm]; exact hz
  by_cases c1 : (its.toArray.isEmpty || k == 1) = true
  · refine road _ (call_meets F.slot_tuple_mul ⟨_, ho, rfl⟩ F.entry_tuple_mul (F.args_tuple_mul_2 _ _) (tuple_mul1 l its.toArray n dd sl k t c0 c1) ⟨ho, ?_⟩)
    refine ⟨.ref l, H, I, rfl, q1 ?_⟩
    rw [Bool.or_eq_true] at c1
    rcases c1 with c1 | c1
    · exact .inl (emp.mp c1)
    · exact .inr (eq_of_beq c1)
  · have c1 : (its.toArray.isEmpty || k == 1) = false := by
      cases e : (its.toArray.isEmpty || k == 1) with
      | true => exact absurd e c1
      | false => rfl
    by_cases hk : k = 0
    · subst hk
      refine road _ (call_meets F.slot_tuple_mul ⟨_, ho, rfl⟩ F.entry_tuple_mul (F.args_tuple_mul_2 _ _) (tuple_mul0 l its.toArray n dd sl t c1) ⟨ho, ?_⟩)
      exact new [] (Nat.zero_le _) [] .nil q
    · have hi : its.toArray.isEmpty = false := by
        rw [Bool.or_eq_false_iff] at c1
        exact c1.1
      have c2 : (decide (k ≤ 0) || its.toArray.isEmpty) = false := by
        rw [hi, Bool.or_false]
        exact decide_eq_false (by omega)
      have hm : ((its.toArray.size : Nat) : Int) * k ≤ 16777216 := by
        rw [hsz0]
        rw [sizeLine_eq] at hz
        have : (k.toNat : Int) = k := Int.toNat_of_nonneg h1
        rw [← this]
        have h3 : ((xs.length * k.toNat : Nat) : Int) ≤ ((16777216 : Nat) : Int) := Int.ofNat_le.mpr hz
        rw [Int.natCast_mul] at h3
        exact h3
      have c4 : Builtin.Tuple.tupleTooMany (((its.toArray.size : Nat) : Int) * k) = false := by
        unfold Builtin.Tuple.tupleTooMany
        rw [sizeLine_eq]
        exact decide_eq_false (by omega)
      refine road _ (call_meets F.slot_tuple_mul ⟨_, ho, rfl⟩ F.entry_tuple_mul (F.args_tuple_mul_2 _ _) (tuple_mulW l its.toArray n dd sl k t c0 c1 c2 (by omega) c4 (by
        rw [size_rep, List.size_toArray, PyProof.Rows.lm_len_rep_flat, hle, Nat.mul_comm]; exact hz)) ⟨ho, ?_⟩)
      rw [size_rep]
      exact new _ flen _ (r.rep k.toNat) q
end Bc

set_option linter.all false
set_option autoImplicit false
set_option maxRecDepth 100000
set_option maxHeartbeats 1000000
namespace Bc
open PySem PySem.Spec L2

/-- what is wanted of an exception: its class, fields, the store, the slots, the heap, the relation -/
abbrev WD := Nat → List (Nat × D) → Sto → L2.St → Hp → Rl → Prop
def wE (X : Sx) (W : WD) (R : Rl) (H : Hp) (σ : L2.St) : Nat → List (Nat × D) → Sto → Prop := fun c fs s => ∀ H' R', Grow R H R' H' → StOk X R' H' s → W c fs s σ H' R'
/-- a transient value: a list that is read at once may be one that is still being filled -/
def RepT (X : Sx) (R : Rl) (H : Hp) (v : V) (d : D) : Prop := Rep X R v d ∨ ∃ a vs ds, d = .lst false ds ∧ v = .ref a ∧ H a = some (.lst vs) ∧ a ∉ R.mu ∧ Reps X R vs ds
inductive RepTs (X : Sx) (R : Rl) (H : Hp) : List V → List D → Prop
  | nil : RepTs X R H [] []
  | cons {v : V} {vs : List V} {d : D} {ds : List D} : RepT X R H v d → RepTs X R H vs ds → RepTs X R H (v :: vs) (d :: ds)
theorem StOk.notmu {X : Sx} {R : Rl} {H : Hp} {sto : Sto} (S : StOk X R H sto) {a : Addr} (h : a ∈ R.mu) : R.Fz a = none ∧ R.Bz a = none := by
  obtain ⟨n, hn⟩ := List.getElem?_of_mem h
  have hl : n < sto.length := by rw [← S.len]; exact (List.getElem?_eq_some_iff.mp hn).1
  obtain ⟨f, b, _⟩ := S.at_ n a sto[n] hn (by simp [hl])
  exact ⟨f, b⟩
theorem Grow.notmu {R R' : Rl} {H H' : Hp} (g : Grow R H R' H') {a : Addr} {o : HO} (e : H a = some o) (m : a ∉ R.mu) : a ∉ R'.mu := fun hm => by
  rcases g.muN a hm with z | z
  · exact m z
  · rw [e] at z; cases z
theorem RepT.grow {X : Sx} {R R' : Rl} {H H' : Hp} {v : V} {d : D} (g : Grow R H R' H') (r : RepT X R H v d) : RepT X R' H' v d := by
  rcases r with r | ⟨a, vs, ds, e1, e2, e3, m, r⟩
  · exact .inl (r.mono g.le)
  · exact .inr ⟨a, vs, ds, e1, e2, (g.kept a _ e3 m).1, g.notmu e3 m, Reps.mono g.le _ r⟩
theorem RepTs.grow {X : Sx} {R R' : Rl} {H H' : Hp} (g : Grow R H R' H') : ∀ {vs : List V} {ds : List D}, RepTs X R H vs ds → RepTs X R' H' vs ds
  | _, _, .nil => .nil
  | _, _, .cons r t => .cons (r.grow g) (RepTs.grow g t)
theorem RepTs.of {X : Sx} {R : Rl} {H : Hp} : ∀ {vs : List V} {ds : List D}, Reps X R vs ds → RepTs X R H vs ds
  | _, _, .nil => .nil
  | _, _, .cons r t => .cons (.inl r) (RepTs.of t)
/-- the reading of an expression by the evaluator -/
def tD (X : Sx) (W : WD) (f : Env → M D) : TE := fun σ H Q => ∃ R env sto, StOk X R H sto ∧ EnvOk X R H σ env ∧
  Out (wE X W R H σ) (f env sto) fun d s' => ∀ v H' R', Grow R H R' H' → StOk X R' H' s' → Rep X R' v d → Q v H'
/-- .. where a transient value is enough -/
def tT (X : Sx) (W : WD) (f : Env → M D) : TE := fun σ H Q => ∃ R env sto, StOk X R H sto ∧ EnvOk X R H σ env ∧
  Out (wE X W R H σ) (f env sto) fun d s' => ∀ v H' R', Grow R H R' H' → StOk X R' H' s' → RepT X R' H' v d → Q v H'
def tDs (X : Sx) (W : WD) (f : Env → M (List D)) : TA := fun σ H Q => ∃ R env sto, StOk X R H sto ∧ EnvOk X R H σ env ∧
  Out (wE X W R H σ) (f env sto) fun d s' => ∀ v H' R', Grow R H R' H' → StOk X R' H' s' → Reps X R' v d → Q v H'
def tTs (X : Sx) (W : WD) (f : Env → M (List D)) : TA := fun σ H Q => ∃ R env sto, StOk X R H sto ∧ EnvOk X R H σ env ∧
  Out (wE X W R H σ) (f env sto) fun d s' => ∀ v H' R', Grow R H R' H' → StOk X R' H' s' → RepTs X R' H' v d → Q v H'
def tB (X : Sx) (W : WD) (f : Env → M Bool) : TT := fun σ H Q => ∃ R env sto, StOk X R H sto ∧ EnvOk X R H σ env ∧
  Out (wE X W R H σ) (f env sto) fun b s' => ∀ H' R', Grow R H R' H' → StOk X R' H' s' → Q b H'
/-- the two modes -/
def tX (X : Sx) (W : WD) (tr : Bool) (f : Env → M D) : TE := if tr then tT X W f else tD X W f
def tXs (X : Sx) (W : WD) (tr : Bool) (f : Env → M (List D)) : TA := if tr then tTs X W f else tDs X W f

section
variable {X : Sx} {W : WD} {C : Cx}
theorem _root_.L2.PE.weak {e : Expr} {t t' : TE} (h : PE C e t) (w : ∀ σ H Q, t' σ H Q → t σ H Q) : PE C e t' := ⟨fun pins s σ H Q I q => h.run pins s σ H Q I (w σ H Q q)⟩
theorem _root_.L2.PT.weak {e : Expr} {t t' : TT} (h : PT C e t) (w : ∀ σ H Q, t' σ H Q → t σ H Q) : PT C e t' := ⟨fun pins s σ H Q I q => h.run pins s σ H Q I (w σ H Q q)⟩
theorem _root_.L2.PA.weak {e : List Expr} {t t' : TA} (h : PA C e t) (w : ∀ σ H Q, t' σ H Q → t σ H Q) : PA C e t' := ⟨fun pos pins s σ H Q I q => h.run pos pins s σ H Q I (w σ H Q q)⟩
theorem _root_.L2.PS.weak {e : Stmt} {t t' : TS} (h : PS C e t) (w : ∀ σ H Q, t' σ H Q → t σ H Q) : PS C e t' := ⟨fun pins s σ H Q I q => h.run pins s σ H Q I (w Q σ H q)⟩
theorem _root_.L2.PSs.weak {e : List Stmt} {t t' : TS} (h : PSs C e t) (w : ∀ σ H Q, t' σ H Q → t σ H Q) : PSs C e t' := ⟨fun pins s σ H Q I q => h.run pins s σ H Q I (w Q σ H q)⟩
theorem _root_.L2.PG.weak {e : Expr} {t t' : TG} (h : PG C e t) (w : ∀ v σ H Q, t' v σ H Q → t v σ H Q) : PG C e t' := ⟨fun pins s σ H v u Q I r q => h.run pins s σ H v u Q I r (w v σ H Q q)⟩

theorem tD_tT {f : Env → M D} {σ : L2.St} {H : Hp} {Q : VK} (h : tT X W f σ H Q) : tD X W f σ H Q := by
  obtain ⟨R, env, sto, S, E, o⟩ := h
  exact ⟨R, env, sto, S, E, o.imp (fun d s k v H' R' g S' r => k v H' R' g S' (.inl r)) fun _ _ _ w => w⟩
theorem tDs_tTs {f : Env → M (List D)} {σ : L2.St} {H : Hp} {Q : List V → Hp → Prop} (h : tTs X W f σ H Q) : tDs X W f σ H Q := by
  obtain ⟨R, env, sto, S, E, o⟩ := h
  exact ⟨R, env, sto, S, E, o.imp (fun d s k v H' R' g S' r => k v H' R' g S' (RepTs.of r)) fun _ _ _ w => w⟩
theorem tX_tT {tr : Bool} {f : Env → M D} {σ : L2.St} {H : Hp} {Q : VK} (h : tT X W f σ H Q) : tX X W tr f σ H Q := by
  cases tr with
  | true => exact h
  | false => exact tD_tT h
theorem tD_tX {tr : Bool} {f : Env → M D} {σ : L2.St} {H : Hp} {Q : VK} (h : tX X W tr f σ H Q) : tD X W f σ H Q := by
  cases tr with
  | true => exact tD_tT h
  | false => exact h
/-- a permanent value serves in both modes -/
theorem _root_.L2.PE.anyX {e : Expr} {f : Env → M D} {tr : Bool} (h : PE C e (tD X W f)) : PE C e (tX X W tr f) := h.weak fun σ H Q q => tD_tX q
theorem _root_.L2.PE.asT {e : Expr} {f : Env → M D} {tr : Bool} (h : PE C e (tX X W tr f)) : PE C e (tT X W f) := h.weak fun σ H Q q => tX_tT q
theorem _root_.L2.PE.anyT {e : Expr} {f : Env → M D} (h : PE C e (tD X W f)) : PE C e (tT X W f) := h.weak fun σ H Q q => tD_tT q

/-- using an operand's reading within a larger evaluation -/
theorem useT {β : Type} {R : Rl} {H : Hp} {sto : Sto} {σ : L2.St} {env : Env} {fa : Env → M D} {g : D → M β} {k : β → Sto → Prop} {Kx : VK} (S : StOk X R H sto) (E : EnvOk X R H σ env)
    (h : Out (wE X W R H σ) (((fa env).bind g) sto) k)
    (hk : ∀ v H1 R1 d s1, Grow R H R1 H1 → StOk X R1 H1 s1 → EnvOk X R1 H1 σ env → RepT X R1 H1 v d → Out (wE X W R H σ) (g d s1) k → Kx v H1) : tT X W fa σ H Kx :=
  ⟨R, env, sto, S, E, (Out.bind h).imp (fun d s q v H' R' g' S' r => hk v H' R' d s g' S' (E.grow g') r q) fun _ _ _ w => w⟩
theorem useD {β : Type} {R : Rl} {H : Hp} {sto : Sto} {σ : L2.St} {env : Env} {fa : Env → M D} {g : D → M β} {k : β → Sto → Prop} {Kx : VK} (S : StOk X R H sto) (E : EnvOk X R H σ env)
    (h : Out (wE X W R H σ) (((fa env).bind g) sto) k)
    (hk : ∀ v H1 R1 d s1, Grow R H R1 H1 → StOk X R1 H1 s1 → EnvOk X R1 H1 σ env → Rep X R1 v d → Out (wE X W R H σ) (g d s1) k → Kx v H1) : tD X W fa σ H Kx :=
  ⟨R, env, sto, S, E, (Out.bind h).imp (fun d s q v H' R' g' S' r => hk v H' R' d s g' S' (E.grow g') r q) fun _ _ _ w => w⟩
theorem useX {β : Type} {tr : Bool} {R : Rl} {H : Hp} {sto : Sto} {σ : L2.St} {env : Env} {fa : Env → M D} {g : D → M β} {k : β → Sto → Prop} {Kx : VK} (S : StOk X R H sto) (E : EnvOk X R H σ env)
    (h : Out (wE X W R H σ) (((fa env).bind g) sto) k)
    (hk : ∀ v H1 R1 d s1, Grow R H R1 H1 → StOk X R1 H1 s1 → EnvOk X R1 H1 σ env → (if tr then RepT X R1 H1 v d else Rep X R1 v d) → Out (wE X W R H σ) (g d s1) k → Kx v H1) : tX X W tr fa σ H Kx := by
  cases tr with
  | true => exact useT S E h hk
  | false => exact useD S E h hk
theorem useDs {β : Type} {R : Rl} {H : Hp} {sto : Sto} {σ : L2.St} {env : Env} {fa : Env → M (List D)} {g : List D → M β} {k : β → Sto → Prop} {Kx : List V → Hp → Prop} (S : StOk X R H sto) (E : EnvOk X R H σ env)
    (h : Out (wE X W R H σ) (((fa env).bind g) sto) k)
    (hk : ∀ v H1 R1 d s1, Grow R H R1 H1 → StOk X R1 H1 s1 → EnvOk X R1 H1 σ env → Reps X R1 v d → Out (wE X W R H σ) (g d s1) k → Kx v H1) : tDs X W fa σ H Kx :=
  ⟨R, env, sto, S, E, (Out.bind h).imp (fun d s q v H' R' g' S' r => hk v H' R' d s g' S' (E.grow g') r q) fun _ _ _ w => w⟩
theorem useTs {β : Type} {R : Rl} {H : Hp} {sto : Sto} {σ : L2.St} {env : Env} {fa : Env → M (List D)} {g : List D → M β} {k : β → Sto → Prop} {Kx : List V → Hp → Prop} (S : StOk X R H sto) (E : EnvOk X R H σ env)
    (h : Out (wE X W R H σ) (((fa env).bind g) sto) k)
    (hk : ∀ v H1 R1 d s1, Grow R H R1 H1 → StOk X R1 H1 s1 → EnvOk X R1 H1 σ env → RepTs X R1 H1 v d → Out (wE X W R H σ) (g d s1) k → Kx v H1) : tTs X W fa σ H Kx :=
  ⟨R, env, sto, S, E, (Out.bind h).imp (fun d s q v H' R' g' S' r => hk v H' R' d s g' S' (E.grow g') r q) fun _ _ _ w => w⟩
theorem useB {β : Type} {R : Rl} {H : Hp} {sto : Sto} {σ : L2.St} {env : Env} {fa : Env → M Bool} {g : Bool → M β} {k : β → Sto → Prop} {Kx : Bool → Hp → Prop} (S : StOk X R H sto) (E : EnvOk X R H σ env)
    (h : Out (wE X W R H σ) (((fa env).bind g) sto) k)
    (hk : ∀ b H1 R1 s1, Grow R H R1 H1 → StOk X R1 H1 s1 → EnvOk X R1 H1 σ env → Out (wE X W R H σ) (g b s1) k → Kx b H1) : tB X W fa σ H Kx :=
  ⟨R, env, sto, S, E, (Out.bind h).imp (fun d s q H' R' g' S' => hk d H' R' s g' S' (E.grow g') q) fun _ _ _ w => w⟩

/-! ### leaves -/
theorem dx_int {i : Int} {j : Nat} {pos : Pos} : PE C (.Constant (.int i) j pos) (tD X W fun _ => M.pure (.int i)) :=
  pe_int.weak fun σ H Q ⟨R, env, sto, S, E, o⟩ => o.pure (.int i) H R (Grow.refl _ _) S (.int i)
theorem dx_bl {i : Bool} {j : Nat} {pos : Pos} : PE C (.Constant (.bool i) j pos) (tD X W fun _ => M.pure (.bl i)) :=
  pe_bl.weak fun σ H Q ⟨R, env, sto, S, E, o⟩ => o.pure (.bl i) H R (Grow.refl _ _) S (.bl i)
theorem dx_non {j : Nat} {pos : Pos} : PE C (.Constant .none j pos) (tD X W fun _ => M.pure .non) :=
  pe_non.weak fun σ H Q ⟨R, env, sto, S, E, o⟩ => o.pure .non H R (Grow.refl _ _) S .non
theorem dx_str {x : Str} {j : Nat} {pos : Pos} : PE C (.Constant (.str x) j pos) (tD X W fun _ => M.pure (.str x)) :=
  pe_str.weak fun σ H Q ⟨R, env, sto, S, E, o⟩ => o.pure (.str x) H R (Grow.refl _ _) S (.str x)
theorem dx_var {i : Nat} {x : Str} {pos : Pos} (cl : Cl) (hN : C.N[i]? = some x) (hv : Vis C.env.scope x) (hd : (x == ("__debug__" : Str)) = false) (hcd : (x == ("__classdict__" : Str)) = false) :
    PE C (.Name x pos) (tD X W (evE cl (.var i))) := by
  refine (pe_var hN hv hd hcd).weak fun σ H Q ⟨R, env, sto, S, E, o⟩ => ?_
  unfold evE at o
  cases e : env[i]? with
  | none => rw [e] at o; exact o.elim
  | some s =>
    rw [e] at o
    cases s with
    | val d =>
      obtain ⟨v, ev, r⟩ := E.at_ i _ e
      exact ⟨v, ev, o.pure v H R (Grow.refl _ _) S r⟩
    | _ => exact o.elim
theorem dx_own {i : Nat} {x : Str} {pos : Pos} (cl : Cl) (hN : C.N[i]? = some x) (hv : Vis C.env.scope x) (hd : (x == ("__debug__" : Str)) = false) (hcd : (x == ("__classdict__" : Str)) = false) :
    PE C (.Name x pos) (tT X W (evE cl (.own i))) := by
  refine (pe_var hN hv hd hcd).weak fun σ H Q ⟨R, env, sto, S, E, o⟩ => ?_
  unfold evE at o
  cases e : env[i]? with
  | none => rw [e] at o; exact o.elim
  | some s =>
    rw [e] at o
    cases s with
    | own ds =>
      obtain ⟨a, vs, ev, eh, f, b, m, r⟩ := E.at_ i _ e
      exact ⟨.ref a, ev, o.pure (.ref a) H R (Grow.refl _ _) S (.inr ⟨a, vs, ds, rfl, rfl, eh, m, r⟩)⟩
    | ownK kvs => exact (E.at_ i _ e).elim
    | ownT kvs => exact (E.at_ i _ e).elim
    | _ => exact o.elim

/-! ### lists, tuples -/
theorem dx_nil : PA C [] (tDs X W fun _ => M.pure []) :=
  pa_nil.weak fun σ H Q ⟨R, env, sto, S, E, o⟩ => o.pure [] H R (Grow.refl _ _) S .nil
theorem dxT_nil : PA C [] (tTs X W fun _ => M.pure []) :=
  pa_nil.weak fun σ H Q ⟨R, env, sto, S, E, o⟩ => o.pure [] H R (Grow.refl _ _) S .nil
theorem dx_cons {e : Expr} {es : List Expr} {f : Env → M D} {g : Env → M (List D)} (ha : PE C e (tD X W f)) (hr : PA C es (tDs X W g)) (hs : starEach (e :: es) C.env = (false, eval e C.env) :: starEach es C.env) :
    PA C (e :: es) (tDs X W fun env => (f env).bind fun x => (g env).bind fun xs => M.pure (x :: xs)) := by
  refine (pa_cons ha hr hs).weak fun σ H Q ⟨R, env, sto, S, E, o⟩ => ?_
  refine useD S E o fun v H1 R1 d s1 g1 S1 E1 r1 o1 => ?_
  have o1 : Out (wE X W R1 H1 σ) (((g env).bind fun xs => M.pure (d :: xs)) s1) _ := o1.imp (fun _ _ q => q) fun _ _ _ w H' R' g' S' => w H' R' (g1.trans g') S'
  refine useDs S1 E1 o1 fun vs H2 R2 ds s2 g2 S2 E2 r2 o2 => ?_
  exact o2.pure (v :: vs) H2 R2 (g1.trans g2) S2 (.cons (r1.mono g2.le) r2)
theorem dxT_cons {e : Expr} {es : List Expr} {f : Env → M D} {g : Env → M (List D)} (ha : PE C e (tT X W f)) (hr : PA C es (tTs X W g)) (hs : starEach (e :: es) C.env = (false, eval e C.env) :: starEach es C.env) :
    PA C (e :: es) (tTs X W fun env => (f env).bind fun x => (g env).bind fun xs => M.pure (x :: xs)) := by
  refine (pa_cons ha hr hs).weak fun σ H Q ⟨R, env, sto, S, E, o⟩ => ?_
  refine useT S E o fun v H1 R1 d s1 g1 S1 E1 r1 o1 => ?_
  have o1 : Out (wE X W R1 H1 σ) (((g env).bind fun xs => M.pure (d :: xs)) s1) _ := o1.imp (fun _ _ q => q) fun _ _ _ w H' R' g' S' => w H' R' (g1.trans g') S'
  refine useTs S1 E1 o1 fun vs H2 R2 ds s2 g2 S2 E2 r2 o2 => ?_
  exact o2.pure (v :: vs) H2 R2 (g1.trans g2) S2 (.cons (r1.grow g2) r2)
theorem lenOk_line {n : Nat} (h : lenOk n = true) : n ≤ sizeLine := by
  have := of_decide_eq_true h
  rw [sizeLine_eq]; exact this
/-- a new frozen object is handed on -/
theorem new_val {R : Rl} {H : Hp} {sto : Sto} {d : D} {o : HO} {Q : VK} {p : Addr} (S : StOk X R H sto) (hp : H p = none)
    (r : ∀ R', RLe R R' → R'.Fz p = some o → Rep X R' (.ref p) d)
    (q : ∀ v H' R', Grow R H R' H' → StOk X R' H' sto → Rep X R' v d → Q v H') : Q (.ref p) (upd H p o) :=
  q _ _ _ (put_grow S hp) (put_st S hp) (r _ (put_le (fz_none S hp)) upd_same)
theorem dx_tup {es : List Expr} {f : Env → M (List D)} {k : Nat} {pos : Pos} (h : PA C es (tDs X W f)) :
    PE C (.Tuple es k pos) (tD X W fun env => (f env).bind fun ds => (need (lenOk ds.length)).bind fun _ => M.pure (.tup ds)) := by
  refine (pe_tup h).weak fun σ H Q ⟨R, env, sto, S, E, o⟩ => ?_
  refine useDs S E o fun vs H1 R1 ds s1 g1 S1 E1 r1 o1 => ?_
  obtain ⟨hl, o2⟩ := o1.needB
  refine ⟨by rw [r1.length]; exact lenOk_line hl, fun p hp => ?_⟩
  exact new_val S1 hp (fun R' le e => .tup e (Reps.mono le _ r1)) fun v H' R' g' S' r' => o2.pure v H' R' (g1.trans g') S' r'
theorem dx_lst {es : List Expr} {f : Env → M (List D)} {pos : Pos} (h : PA C es (tDs X W f)) :
    PE C (.List es pos) (tD X W fun env => (f env).bind fun ds => (need (lenOk ds.length)).bind fun _ => M.pure (.lst true ds)) := by
  refine (pe_lst h).weak fun σ H Q ⟨R, env, sto, S, E, o⟩ => ?_
  refine useDs S E o fun vs H1 R1 ds s1 g1 S1 E1 r1 o1 => ?_
  obtain ⟨hl, o2⟩ := o1.needB
  refine ⟨by rw [r1.length]; exact lenOk_line hl, fun p hp => ?_⟩
  exact new_val S1 hp (fun R' le e => .lst e (Reps.mono le _ r1)) fun v H' R' g' S' r' => o2.pure v H' R' (g1.trans g') S' r'

/-! ### operations on two values -/
/-- a rule r of the layer answers what g does on trees -/
def Op2 (X : Sx) (r : R2) (g : D → D → M D) : Prop := ∀ (W' : Nat → List (Nat × D) → Sto → Prop) (R : Rl) (H : Hp) (sto : Sto) (x y : V) (dx dy : D) (k : D → Sto → Prop) (Q : VK),
  StOk X R H sto → RepT X R H x dx → RepT X R H y dy → Out W' (g dx dy sto) k → (∀ d s', k d s' → ∀ v H' R', Grow R H R' H' → StOk X R' H' s' → Rep X R' v d → Q v H') → r x y H Q
theorem dx_bin {o : Operator} {r : R2} {g : D → D → M D} {a b : Expr} {fa fb : Env → M D} {pos : Pos} (ho : OpR C (binaryOp o) r) (hg : Op2 X r g) (ha : PE C a (tT X W fa)) (hb : PE C b (tT X W fb)) :
    PE C (.BinOp a o b pos) (tD X W fun env => (fa env).bind fun x => (fb env).bind fun y => g x y) := by
  refine (pe_op ho ha hb).weak fun σ H Q ⟨R, env, sto, S, E, o⟩ => ?_
  refine useT S E o fun v H1 R1 d s1 g1 S1 E1 r1 o1 => ?_
  have o1 : Out (wE X W R1 H1 σ) (((fb env).bind fun y => g d y) s1) _ := o1.imp (fun _ _ q => q) fun _ _ _ w H' R' g' S' => w H' R' (g1.trans g') S'
  refine useT S1 E1 o1 fun v2 H2 R2 d2 s2 g2 S2 E2 r2 o2 => ?_
  exact hg _ R2 H2 s2 v v2 d d2 _ Q S2 (r1.grow g2) r2 o2 fun d' s' q v' H' R' g' S' r' => q v' H' R' ((g1.trans g2).trans g') S' r'
theorem dx_cmp {o : CmpOp} {r : R2} {g : D → D → M D} {a b : Expr} {fa fb : Env → M D} {pos : Pos} (ho : OpR C (compareOp o) r) (hg : Op2 X r g) (ha : PE C a (tT X W fa)) (hb : PE C b (tT X W fb)) (hm : behindInMarks o b = false) :
    PE C (.Compare a [o] [b] pos) (tD X W fun env => (fa env).bind fun x => (fb env).bind fun y => g x y) := by
  refine (pe_cmpR ho ha hb hm).weak fun σ H Q ⟨R, env, sto, S, E, o⟩ => ?_
  refine useT S E o fun v H1 R1 d s1 g1 S1 E1 r1 o1 => ?_
  have o1 : Out (wE X W R1 H1 σ) (((fb env).bind fun y => g d y) s1) _ := o1.imp (fun _ _ q => q) fun _ _ _ w H' R' g' S' => w H' R' (g1.trans g') S'
  refine useT S1 E1 o1 fun v2 H2 R2 d2 s2 g2 S2 E2 r2 o2 => ?_
  exact hg _ R2 H2 s2 v v2 d d2 _ Q S2 (r1.grow g2) r2 o2 fun d' s' q v' H' R' g' S' r' => q v' H' R' ((g1.trans g2).trans g') S' r'
end
end Bc

set_option linter.all false
set_option autoImplicit false
set_option maxRecDepth 100000
set_option maxHeartbeats 1000000
namespace Bc
open PySem PySem.Spec L2

section
variable {X : Sx} {R : Rl} {H : Hp} {sto : Sto}
theorem RepT.int {v : V} {i : Int} (r : RepT X R H v (.int i)) : v = .int i := by
  rcases r with r | ⟨_, _, _, e, _⟩
  · cases r; rfl
  · cases e
theorem RepT.bl {v : V} {i : Bool} (r : RepT X R H v (.bl i)) : v = .bl i := by
  rcases r with r | ⟨_, _, _, e, _⟩
  · cases r; rfl
  · cases e
theorem RepT.non {v : V} (r : RepT X R H v .non) : v = .non := by
  rcases r with r | ⟨_, _, _, e, _⟩
  · cases r; rfl
  · cases e
theorem RepT.str {v : V} {i : Str} (r : RepT X R H v (.str i)) : v = .str i := by
  rcases r with r | ⟨_, _, _, e, _⟩
  · cases r; rfl
  · cases e
theorem RepT.tup {v : V} {ds : List D} (S : StOk X R H sto) (r : RepT X R H v (.tup ds)) : ∃ a vs, v = .ref a ∧ SqT X.K H a vs ∧ Reps X R vs ds := by
  rcases r with r | ⟨_, _, _, e, _⟩
  · cases r with | tup e r => exact ⟨_, _, rfl, .inl (.inl (S.fz _ _ e)), r⟩
  · cases e
theorem RepT.tupX {v : V} {ds : List D} (S : StOk X R H sto) (r : RepT X R H v (.tup ds)) : ∃ a vs, v = .ref a ∧ H a = some (.tup vs) ∧ Reps X R vs ds := by
  rcases r with r | ⟨_, _, _, e, _⟩
  · cases r with | tup e r => exact ⟨_, _, rfl, S.fz _ _ e, r⟩
  · cases e
theorem RepT.lst {v : V} {b : Bool} {ds : List D} (S : StOk X R H sto) (r : RepT X R H v (.lst b ds)) : ∃ a vs, v = .ref a ∧ H a = some (.lst vs) ∧ Reps X R vs ds := by
  rcases r with r | ⟨a, vs, ds', e, e1, e2, m, r⟩
  · cases r with
    | lst e r => exact ⟨_, _, rfl, S.fz _ _ e, r⟩
    | bor e r => exact ⟨_, _, rfl, S.bz _ _ e, r⟩
  · cases e; exact ⟨a, vs, e1, e2, r⟩
theorem RepT.ro {v : V} {ds : List D} (S : StOk X R H sto) (r : RepT X R H v (.ro ds)) : ∃ a vs, v = .ref a ∧ SqL X.K H a vs ∧ Reps X R vs ds := by
  rcases r with r | ⟨_, _, _, e, _⟩
  · cases r with | ro e r => exact ⟨_, _, rfl, sqL_le S.fz e, r⟩
  · cases e
theorem RepT.loc {v : V} {n : Nat} (r : RepT X R H v (.loc n)) : ∃ a, v = .ref a ∧ R.mu[n]? = some a := by
  rcases r with r | ⟨_, _, _, e, _⟩
  · cases r with | loc e => exact ⟨_, rfl, e⟩
  · cases e
theorem RepT.ins {v : V} {c : Nat} {ds : List (Nat × D)} (S : StOk X R H sto) (r : RepT X R H v (.ins c ds)) : ∃ a dx fs, v = .ref a ∧ H a = some (.ins (X.ca c) dx fs) ∧ Repf X R fs ds := by
  rcases r with r | ⟨_, _, _, e, _⟩
  · cases r with | ins e r => exact ⟨_, _, _, rfl, S.fz _ _ e, r⟩
  · cases e
/-- a sequence: a list or a tuple -/
theorem RepT.seq {v : V} {d : D} {ds : List D} (S : StOk X R H sto) (r : RepT X R H v d) (e : asSeq d = some ds) : ∃ a vs, v = .ref a ∧ (SqL X.K H a vs ∨ SqT X.K H a vs) ∧ Reps X R vs ds := by
  cases d <;> simp only [asSeq] at e <;> cases e
  · obtain ⟨a, vs, e1, e2, e3⟩ := r.tup S; exact ⟨a, vs, e1, .inr e2, e3⟩
  · obtain ⟨a, vs, e1, e2, e3⟩ := r.lst S; exact ⟨a, vs, e1, .inl (.of e2), e3⟩
  · obtain ⟨a, vs, e1, e2, e3⟩ := r.ro S; exact ⟨a, vs, e1, .inl e2, e3⟩
theorem RepTs.one {vs : List V} {d : D} (r : RepTs X R H vs [d]) : ∃ v, vs = [v] ∧ RepT X R H v d := by
  cases r with | cons a b => cases b; exact ⟨_, rfl, a⟩
theorem RepTs.two {vs : List V} {d e : D} (r : RepTs X R H vs [d, e]) : ∃ v w, vs = [v, w] ∧ RepT X R H v d ∧ RepT X R H w e := by
  cases r with | cons a b => cases b with | cons c d => cases d; exact ⟨_, _, rfl, a, c⟩
/-- a value that needs no heap -/
theorem got {d : D} {v : V} {Q : VK} (S : StOk X R H sto) (r : Rep X R v d) (q : ∀ v H' R', Grow R H R' H' → StOk X R' H' sto → Rep X R' v d → Q v H') : Q v H := q v H R (Grow.refl _ _) S r

/-! ### data -/
mutual
theorem toPy_dp (le : HLe R.Fz H) (lb : HLe R.Bz H) : ∀ (d : D) (p : PyData) {v : V}, toPy d = some p → Rep X R v d → Dp X.K H v p
  | .non, p, _, e, r => by cases r; cases e; exact .non
  | .bl b, p, _, e, r => by cases r; cases e; exact .bl b
  | .int i, p, _, e, r => by cases r; cases e; exact .int i
  | .str x, p, _, e, r => by cases r; cases e; exact .str x
  | .tup ds, p, _, e, r => by
    cases r with
    | tup h r =>
      simp only [toPy, Option.map_eq_some_iff] at e
      obtain ⟨ps, e1, e2⟩ := e
      subst e2
      exact .tup ((.inl (.inl (le _ _ h)))) (toPys_dp le lb ds ps e1 r)
  | .lst true ds, p, _, e, r => by
    cases r with
    | lst h r =>
      simp only [toPy, Option.map_eq_some_iff] at e
      obtain ⟨ps, e1, e2⟩ := e
      subst e2
      exact .lst (.of (le _ _ h)) (toPys_dp le lb ds ps e1 r)
  | .lst false ds, p, _, e, r => by
    cases r with
    | bor h r =>
      simp only [toPy, Option.map_eq_some_iff] at e
      obtain ⟨ps, e1, e2⟩ := e
      subst e2
      exact .lst (.of (lb _ _ h)) (toPys_dp le lb ds ps e1 r)
  | .ro _, _, _, e, _ => by cases e
  | .dK _ _, _, _, e, _ => by cases e
  | .dT _ _, _, _, e, _ => by cases e
  | .ins _ _, _, _, e, _ => by cases e
  | .exc _ _, _, _, e, _ => by cases e
  | .cls _, _, _, e, _ => by cases e
  | .fn _, _, _, e, _ => by cases e
  | .loc _, _, _, e, _ => by cases e
theorem toPys_dp (le : HLe R.Fz H) (lb : HLe R.Bz H) : ∀ (ds : List D) (ps : List PyData) {vs : List V}, toPys ds = some ps → Reps X R vs ds → DpAll X.K H vs ps
  | [], ps, _, e, r => by cases r; cases e; exact .nil
  | d :: ds, ps, _, e, r => by
    cases r with
    | cons a b =>
      simp only [toPys] at e
      split at e
      · rename_i p qs e1 e2
        cases e
        exact .cons (toPy_dp le lb d p e1 a) (toPys_dp le lb ds qs e2 b)
      · cases e
end
theorem RepT.dp {v : V} {d : D} {p : PyData} (S : StOk X R H sto) (r : RepT X R H v d) (e : toPy d = some p) : Dp X.K H v p := by
  rcases r with r | ⟨a, vs, ds, e1, e2, e3, m, r⟩
  · exact toPy_dp S.fz S.bz d p e r
  · subst e1 e2
    simp only [toPy, Option.map_eq_some_iff] at e
    obtain ⟨ps, e4, e5⟩ := e
    subst e5
    exact .lst (.of e3) (toPys_dp S.fz S.bz ds ps e4 r)
end

/-! ### operators -/
section
variable {X : Sx}
theorem dec_of {p : Prop} [Decidable p] (h : decide p = true) : p := of_decide_eq_true h
abbrev rAdd4 (K : PySem.W.Frag) : R2 := fun x y H Q => rI0 (fun i j => .int (i + j)) x y H Q ∨ (∃ i j, x = .str i ∧ y = .str j ∧ i.length + j.length ≤ sizeLine ∧ Q (.str (i ++ j)) H) ∨ rCatA K x y H Q ∨ rCat x y H Q
theorem op_add4 {C : Cx} : OpR C (binaryOp .Add) (rAdd4 C.K) := op_add.or (op_add_str.or (op_catA.or op_cat))
theorem g_add : Op2 X (rAdd4 X.K) (binD .Add) := by
  intro W' R H sto x y dx dy k Q S rx ry o q
  unfold binD at o
  split at o
  · rw [rx.int, ry.int]
    refine .inl ⟨_, _, rfl, rfl, ?_⟩
    exact got S (.int _) (q _ _ (Out.pure o))
  · rw [rx.str, ry.str]
    obtain ⟨hl, o⟩ := o.needB
    exact .inr (.inl ⟨_, _, rfl, rfl, lenOk_line hl, got S (.str _) (q _ _ (Out.pure o))⟩)
  · obtain ⟨hl, o⟩ := o.needB
    obtain ⟨a, vs, rfl, ha, ra⟩ := rx.tup S
    obtain ⟨b, ws, rfl, hb, rb⟩ := ry.tup S
    have q := q _ _ (Out.pure o)
    refine .inr (.inr (.inl ⟨a, b, vs, ws, rfl, rfl, ha, hb, by rw [ra.length, rb.length]; exact lenOk_line hl, fun e => ?_, fun _ e => ?_, fun _ _ p hp => ?_⟩))
    · subst e
      cases ra
      rcases ry with ry | ⟨_, _, _, z, _⟩
      · exact got S ry q
      · cases z
    · subst e
      cases rb
      rcases rx with rx | ⟨_, _, _, z, _⟩
      · exact got S (by rw [List.append_nil]; exact rx) q
      · cases z
    · exact new_val S hp (fun R' le e => .tup e (Reps.mono le _ (ra.append rb))) q
  · obtain ⟨hl, o⟩ := o.needB
    obtain ⟨a, vs, rfl, ha, ra⟩ := rx.lst S
    obtain ⟨b, ws, rfl, hb, rb⟩ := ry.lst S
    have q := q _ _ (Out.pure o)
    exact .inr (.inr (.inr ⟨a, b, vs, ws, rfl, rfl, ha, hb, by rw [ra.length, rb.length]; exact lenOk_line hl, fun p hp =>
      new_val S hp (fun R' le e => .lst e (Reps.mono le _ (ra.append rb))) q⟩))
  · exact o.elim
  · exact o.elim
  · exact o.elim
theorem g_sub : Op2 X (rI0 fun i j => .int (i - j)) (binD .Sub) := by
  intro W' R H sto x y dx dy k Q S rx ry o q
  unfold binD at o
  split at o
  · rw [rx.int, ry.int]
    exact ⟨_, _, rfl, rfl, got S (.int _) (q _ _ (Out.pure o))⟩
  all_goals exact o.elim
theorem repL_id {xs : List D} {k : Int} (e : xs = [] ∨ k = 1) : repL xs k = xs := by
  unfold repL
  rcases e with e | e
  · subst e
    induction k.toNat with
    | zero => rfl
    | succ n ih => rw [List.replicate_succ, List.flatten_cons, ih]; rfl
  · rw [e]; show (List.replicate 1 xs).flatten = xs; simp
abbrev rMul2 (K : PySem.W.Frag) : R2 := fun x y H Q => rI CMulW (fun i j => .int (i * j)) x y H Q ∨ rRep x y H Q ∨ rRepA K x y H Q
theorem op_mul2 {C : Cx} : OpR C (binaryOp .Mult) (rMul2 C.K) := op_mulW.or (op_rep.or op_repA)
theorem g_mul : Op2 X (rMul2 X.K) (binD .Mult) := by
  intro W' R H sto x y dx dy k Q S rx ry o q
  unfold binD at o
  split at o
  · rw [rx.int, ry.int]
    obtain ⟨h, o⟩ := o.needB
    have h2 := dec_of h
    exact .inl ⟨_, _, rfl, rfl, h2, got S (.int _) (q _ _ (Out.pure o))⟩
  · exact o.elim
  · exact o.elim
  · exact o.elim
  · obtain ⟨h, o⟩ := o.needB
    obtain ⟨a, vs, rfl, ha, ra⟩ := rx.lst S
    rw [ry.int]
    have q := q _ _ (Out.pure o)
    rw [Bool.and_eq_true] at h
    have h1 := of_decide_eq_true h.1
    refine .inr (.inl ⟨a, _, vs, rfl, rfl, ha, by omega, by omega, by rw [ra.length]; exact lenOk_line h.2, fun p hp => ?_⟩)
    exact new_val S hp (fun R' le e => .lst e (Reps.mono le _ (ra.rep _))) q
  · obtain ⟨h, o⟩ := o.needB
    obtain ⟨a, vs, rfl, ha, ra⟩ := rx.tup S
    rw [ry.int]
    have q := q _ _ (Out.pure o)
    rw [Bool.and_eq_true] at h
    have h1 := of_decide_eq_true h.1
    refine .inr (.inr ⟨a, _, vs, rfl, rfl, ha, h1.1, h1.2, by rw [ra.length]; exact lenOk_line h.2, fun e => ?_, fun p hp => ?_⟩)
    · rw [repL_id (by
        rcases e with e | e
        · subst e; cases ra; exact .inl rfl
        · exact .inr e)] at q
      rcases rx with rx | ⟨_, _, _, z, _⟩
      · exact got S rx q
      · cases z
    · exact new_val S hp (fun R' le e => .tup e (Reps.mono le _ (ra.rep _))) q
  · exact o.elim
def CDivQ (i j : Int) : Prop := 0 < j ∧ Builtin.divisionGoesByPylong i j = false
theorem op_fdivQ {C : Cx} : OpR C (binaryOp .FloorDiv) (rI CDivQ fun i j => .int (i / j)) := opI fun i j _ _ _ _ _ hc q => by
  have h1 : (0 : Int) < j := hc.1
  exact PyProof.Rows.floordiv_int (by omega) (by rw [Int.fdiv_eq_ediv_of_nonneg i (by omega)]; exact q) (.inl hc.2)
theorem pyDiv_ok {i j : Int} (h : pyDiv i j = true) : CDivQ i j := by
  unfold pyDiv at h
  rw [Bool.and_eq_true] at h
  exact ⟨of_decide_eq_true h.1, by simpa using h.2⟩
theorem g_fdiv : Op2 X (rI CDivQ fun i j => .int (i / j)) (binD .FloorDiv) := by
  intro W' R H sto x y dx dy k Q S rx ry o q
  unfold binD at o
  split at o
  · rw [rx.int, ry.int]
    obtain ⟨h, o⟩ := o.needB
    exact ⟨_, _, rfl, rfl, pyDiv_ok h, got S (.int _) (q _ _ (Out.pure o))⟩
  all_goals exact o.elim
theorem g_mod : Op2 X (rI (fun _ j => 0 < j) fun i j => .int (i % j)) (binD .Mod) := by
  intro W' R H sto x y dx dy k Q S rx ry o q
  unfold binD at o
  split at o
  · rw [rx.int, ry.int]
    obtain ⟨h, o⟩ := o.needB
    have h2 := dec_of h
    exact ⟨_, _, rfl, rfl, h2, got S (.int _) (q _ _ (Out.pure o))⟩
  all_goals exact o.elim
theorem g_pow : Op2 X (rI CPow fun i j => .int (i ^ j.toNat)) (binD .Pow) := by
  intro W' R H sto x y dx dy k Q S rx ry o q
  unfold binD at o
  split at o
  · rw [rx.int, ry.int]
    obtain ⟨h, o⟩ := o.needB
    have h2 := dec_of h
    exact ⟨_, _, rfl, rfl, h2, got S (.int _) (q _ _ (Out.pure o))⟩
  all_goals exact o.elim
theorem g_shr : Op2 X (rI (fun _ j => 0 ≤ j) fun i j => .int (i / 2 ^ j.toNat)) (binD .RShift) := by
  intro W' R H sto x y dx dy k Q S rx ry o q
  unfold binD at o
  split at o
  · rw [rx.int, ry.int]
    obtain ⟨h, o⟩ := o.needB
    have h2 := dec_of h
    exact ⟨_, _, rfl, rfl, h2, got S (.int _) (q _ _ (Out.pure o))⟩
  all_goals exact o.elim
theorem g_band : Op2 X (rI0 fun i j => .int (Builtin.bitAnd i j)) (binD .BitAnd) := by
  intro W' R H sto x y dx dy k Q S rx ry o q
  unfold binD at o
  split at o
  · rw [rx.int, ry.int]
    exact ⟨_, _, rfl, rfl, got S (.int _) (q _ _ (Out.pure o))⟩
  all_goals exact o.elim
theorem g_bor : Op2 X (rI0 fun i j => .int (Builtin.bitOr i j)) (binD .BitOr) := by
  intro W' R H sto x y dx dy k Q S rx ry o q
  unfold binD at o
  split at o
  · rw [rx.int, ry.int]
    exact ⟨_, _, rfl, rfl, got S (.int _) (q _ _ (Out.pure o))⟩
  all_goals exact o.elim
theorem g_bxor : Op2 X (rI0 fun i j => .int (Builtin.bitXor i j)) (binD .BitXor) := by
  intro W' R H sto x y dx dy k Q S rx ry o q
  unfold binD at o
  split at o
  · rw [rx.int, ry.int]
    exact ⟨_, _, rfl, rfl, got S (.int _) (q _ _ (Out.pure o))⟩
  all_goals exact o.elim

/-! ### comparisons -/
theorem eqD_dp {R : Rl} {H : Hp} {sto : Sto} {x y : V} {dx dy : D} {b : Bool} (S : StOk X R H sto) (rx : RepT X R H x dx) (ry : RepT X R H y dy) (e : eqD dx dy = some b) :
    ∃ d d', Dp X.K H x d ∧ Dp X.K H y d' ∧ SeqAt.shaped d = true ∧ SeqAt.shaped d' = true ∧ PyData.eqv d d' = b := by
  unfold eqD at e
  split at e
  · rename_i p p' e1 e2
    split at e
    · rename_i h
      rw [Bool.and_eq_true] at h
      exact ⟨p, p', rx.dp S e1, ry.dp S e2, h.1, h.2, Option.some.inj e⟩
    · cases e
  · cases e
theorem g_eq : Op2 X (rEqD X.K) (cmpD .Eq) := by
  intro W' R H sto x y dx dy k Q S rx ry o q
  obtain ⟨b, e, o⟩ := o.ofOptB
  obtain ⟨d, d', h1, h2, h3, h4, h5⟩ := eqD_dp S rx ry e
  exact ⟨d, d', h1, h2, h3, h4, by rw [h5]; exact got S (.bl _) (q _ _ (Out.pure o))⟩
theorem g_ne : Op2 X (rNeD X.K) (cmpD .NotEq) := by
  intro W' R H sto x y dx dy k Q S rx ry o q
  obtain ⟨b, e, o⟩ := o.ofOptB
  obtain ⟨d, d', h1, h2, h3, h4, h5⟩ := eqD_dp S rx ry e
  exact ⟨d, d', h1, h2, h3, h4, by rw [h5]; exact got S (.bl _) (q _ _ (Out.pure o))⟩
abbrev rLt3 (K : PySem.W.Frag) : R2 := fun x y H Q => rI0 (fun i j => .bl (decide (i < j))) x y H Q ∨ (∃ i j, x = .str i ∧ y = .str j ∧ Q (.bl (decide (i.cps.toList < j.cps.toList))) H) ∨ rLtT K x y H Q
theorem op_lt3 {C : Cx} (hu : C.A.units < cLine) : OpR C (compareOp .Lt) (rLt3 C.K) := op_lt.or (op_lt_str.or (op_ltT hu))
theorem g_lt : Op2 X (rLt3 X.K) (cmpD .Lt) := by
  intro W' R H sto x y dx dy k Q S rx ry o q
  obtain ⟨b, e, o⟩ := o.ofOptB
  have q := q _ _ (Out.pure o)
  unfold ltD at e
  split at e
  · cases e
    rw [rx.int, ry.int]
    exact .inl ⟨_, _, rfl, rfl, got S (.bl _) q⟩
  · cases e
    rw [rx.str, ry.str]
    exact .inr (.inl ⟨_, _, rfl, rfl, got S (.bl _) q⟩)
  · split at e
    · rename_i n m e1 e2
      cases e
      obtain ⟨a, vs, rfl, ha, ra⟩ := rx.tup S
      obtain ⟨b, ws, rfl, hb, rb⟩ := ry.tup S
      rw [ra.ints e1] at ha
      rw [rb.ints e2] at hb
      exact .inr (.inr ⟨a, b, n, m, rfl, rfl, ha, hb, got S (.bl _) q⟩)
    · cases e
  · cases e
theorem g_le : Op2 X (rI0 fun i j => .bl (decide (i ≤ j))) (cmpD .LtE) := by
  intro W' R H sto x y dx dy k Q S rx ry o q
  unfold cmpD at o
  dsimp only at o
  split at o
  · rw [rx.int, ry.int]
    exact ⟨_, _, rfl, rfl, got S (.bl _) (q _ _ (Out.pure o))⟩
  · exact o.elim
theorem g_gt : Op2 X (rI0 fun i j => .bl (decide (j < i))) (cmpD .Gt) := by
  intro W' R H sto x y dx dy k Q S rx ry o q
  unfold cmpD at o
  dsimp only at o
  split at o
  · rw [rx.int, ry.int]
    exact ⟨_, _, rfl, rfl, got S (.bl _) (q _ _ (Out.pure o))⟩
  · exact o.elim
theorem g_ge : Op2 X (rI0 fun i j => .bl (decide (j ≤ i))) (cmpD .GtE) := by
  intro W' R H sto x y dx dy k Q S rx ry o q
  unfold cmpD at o
  dsimp only at o
  split at o
  · rw [rx.int, ry.int]
    exact ⟨_, _, rfl, rfl, got S (.bl _) (q _ _ (Out.pure o))⟩
  · exact o.elim
end
end Bc

set_option linter.all false
set_option autoImplicit false
set_option maxRecDepth 100000
set_option maxHeartbeats 1000000
namespace Bc
open PySem PySem.Spec L2

section
variable {X : Sx}
/-! ### in, is -/
/-- what a dict holds at a key -/
def DHas (x y : V) (H : Hp) (b : Bool) : Prop := ∃ (a : Addr) (o : Option V), y = .ref a ∧ DGet H a x o ∧ b = o.isSome
theorem op_inDict {C : Cx} (hu : C.A.units + 65 < cLine) : OpR C (compareOp .In) (fun x y H Q => ∃ b, DHas x y H b ∧ Q (.bl b) H) := by
  intro pins s σ H x y v u Q I rx ry h
  obtain ⟨b, ⟨a, o, rfl, g, rfl⟩, q⟩ := h
  obtain rfl : u = Value.ref a := ry
  exact d_in (by omega) I g rx fun s3 I3 => ⟨.bl o.isSome, H, I3, rfl, q⟩
theorem op_notInDict {C : Cx} (hu : C.A.units + 65 < cLine) : OpR C (compareOp .NotIn) (fun x y H Q => ∃ b, DHas x y H b ∧ Q (.bl (!b)) H) := by
  intro pins s σ H x y v u Q I rx ry h
  obtain ⟨b, ⟨a, o, rfl, g, rfl⟩, q⟩ := h
  obtain rfl : u = Value.ref a := ry
  exact d_notIn (by omega) I g rx fun s3 I3 => ⟨.bl (!o.isSome), H, I3, rfl, q⟩
/-- in a tuple, by data -/
def DTup (K : PySem.W.Frag) (x y : V) (H : Hp) (b : Bool) : Prop := ∃ d ds, Dp K H x d ∧ Dp K H y (.tuple ds) ∧ SeqAt.shaped d = true ∧ SeqAt.shaped (.tuple ds) = true ∧ b = ds.any fun z => PyData.eqv z d
theorem op_inTup {C : Cx} (hu : C.A.units + 65 < cLine) : OpR C (compareOp .In) (fun x y H Q => ∃ b, DTup C.K x y H b ∧ Q (.bl b) H) := by
  intro pins s σ H x y v u Q I rx ry h
  obtain ⟨b, ⟨d, ds, hd, he, sd, se, rfl⟩, q⟩ := h
  obtain ⟨as, r1⟩ := Dp.reads I d x v hd rx
  obtain ⟨bs, r2⟩ := Dp.reads I (.tuple ds) y u he ry
  exact SeqAt.in_tuple_reads r2 r1 (SeqAt.canLay_of_shaped se) (SeqAt.canLay_of_shaped sd) (PyProof.Rows.room_in_shaped sd hu) ⟨.bl _, H, I, rfl, q⟩
theorem op_notInTup {C : Cx} (hu : C.A.units + 65 < cLine) : OpR C (compareOp .NotIn) (fun x y H Q => ∃ b, DTup C.K x y H b ∧ Q (.bl (!b)) H) := by
  intro pins s σ H x y v u Q I rx ry h
  obtain ⟨b, ⟨d, ds, hd, he, sd, se, rfl⟩, q⟩ := h
  obtain ⟨as, r1⟩ := Dp.reads I d x v hd rx
  obtain ⟨bs, r2⟩ := Dp.reads I (.tuple ds) y u he ry
  exact SeqAt.notIn_tuple_reads r2 r1 (SeqAt.canLay_of_shaped se) (SeqAt.canLay_of_shaped sd) (PyProof.Rows.room_in_shaped sd hu) ⟨.bl _, H, I, rfl, q⟩
abbrev rIn3 (K : PySem.W.Frag) : R2 := fun x y H Q => rInD K x y H Q ∨ (∃ (c : Nat) (z : Str), x = .str ⟨#[c]⟩ ∧ y = .str z ∧ Q (.bl (decide (c ∈ z.cps.toList))) H) ∨ rIn K false x y H Q ∨ (∃ b, DHas x y H b ∧ Q (.bl b) H) ∨ ∃ b, DTup K x y H b ∧ Q (.bl b) H
theorem op_in3 {C : Cx} (hu : C.A.units + 65 < cLine) : OpR C (compareOp .In) (rIn3 C.K) := (op_inD hu).or (op_in_sign.or (op_in_seq.or ((op_inDict hu).or (op_inTup hu))))
abbrev rNotIn3 (K : PySem.W.Frag) : R2 := fun x y H Q => rNotInD K x y H Q ∨ (∃ (c : Nat) (z : Str), x = .str ⟨#[c]⟩ ∧ y = .str z ∧ Q (.bl (!decide (c ∈ z.cps.toList))) H) ∨ rIn K true x y H Q ∨ (∃ b, DHas x y H b ∧ Q (.bl (!b)) H) ∨ ∃ b, DTup K x y H b ∧ Q (.bl (!b)) H
theorem op_notIn3 {C : Cx} (hu : C.A.units + 65 < cLine) : OpR C (compareOp .NotIn) (rNotIn3 C.K) := (op_notInD hu).or (op_notIn_sign.or (op_notIn_seq.or ((op_notInDict hu).or (op_notInTup hu))))
theorem key_v {R : Rl} {v : V} {d : D} {k : L2.Key} (r : Rep X R v d) (e : keyOf d = some k) : v = kV k := by
  cases r <;> first | (cases e; done) | (cases e; rfl)
theorem keys_v {R : Rl} : ∀ {vs : List V} {ds : List D} {ks : List L2.Key}, Reps X R vs ds → keysOf ds = some ks → vs = ks.map kV
  | _, _, _, .nil, e => by cases e; rfl
  | _, _, ks, .cons (d := d) (ds := ds) r t, e => by
    unfold keysOf at e
    split at e
    · rename_i k ks' e1 e2
      cases e
      rw [key_v r e1, keys_v t e2]; rfl
    · cases e
theorem Repk.val {R : Rl} (k : L2.Key) : ∀ {vs : List (L2.Key × V)} {ds : List (L2.Key × D)}, Repk X R vs ds → (dVal ds k = none ∧ valV vs k = none) ∨ ∃ d v, dVal ds k = some d ∧ valV vs k = some v ∧ Rep X R v d
  | _, _, .nil => .inl ⟨rfl, rfl⟩
  | _, _, .cons (k := j) (v := v) (d := d) r t => by
    by_cases h : j = k
    · refine .inr ⟨d, v, ?_, valV_pos h, r⟩
      simp [dVal, List.find?_cons, h]
    · rcases Repk.val k t with ⟨e1, e2⟩ | ⟨d', v', e1, e2, r'⟩
      · exact .inl ⟨by simpa [dVal, List.find?_cons, h] using e1, (valV_neg h).trans e2⟩
      · exact .inr ⟨d', v', by simpa [dVal, List.find?_cons, h] using e1, (valV_neg h).trans e2, r'⟩
theorem Rept.val {R : Rl} (k : List L2.Key) : ∀ {vs : List (List L2.Key × V)} {ds : List (List L2.Key × D)}, Rept X R vs ds → (dVal ds k = none ∧ valV vs k = none) ∨ ∃ d v, dVal ds k = some d ∧ valV vs k = some v ∧ Rep X R v d
  | _, _, .nil => .inl ⟨rfl, rfl⟩
  | _, _, .cons (k := j) (v := v) (d := d) r t => by
    by_cases h : j = k
    · refine .inr ⟨d, v, ?_, valV_pos h, r⟩
      simp [dVal, List.find?_cons, h]
    · rcases Rept.val k t with ⟨e1, e2⟩ | ⟨d', v', e1, e2, r'⟩
      · exact .inl ⟨by simpa [dVal, List.find?_cons, h] using e1, (valV_neg h).trans e2⟩
      · exact .inr ⟨d', v', by simpa [dVal, List.find?_cons, h] using e1, (valV_neg h).trans e2, r'⟩
theorem RepT.dK {R : Rl} {H : Hp} {sto : Sto} {v : V} {ds : List (L2.Key × D)} (S : StOk X R H sto) (r : RepT X R H v (.dK true ds)) : ∃ a vs, v = .ref a ∧ H a = some (.dK vs) ∧ Repk X R vs ds := by
  rcases r with r | ⟨_, _, _, e, _⟩
  · cases r with | dK e r => exact ⟨_, _, rfl, S.fz _ _ e, r⟩
  · cases e
theorem RepT.dT {R : Rl} {H : Hp} {sto : Sto} {v : V} {ds : List (List L2.Key × D)} (S : StOk X R H sto) (r : RepT X R H v (.dT true ds)) : ∃ a vs, v = .ref a ∧ H a = some (.dT vs) ∧ Rept X R vs ds := by
  rcases r with r | ⟨_, _, _, e, _⟩
  · cases r with | dT e r => exact ⟨_, _, rfl, S.fz _ _ e, r⟩
  · cases e
theorem inK_has {R : Rl} {H : Hp} {sto : Sto} {x y : V} {dx : D} {kvs : List (L2.Key × D)} {b : Bool} (S : StOk X R H sto) (rx : RepT X R H x dx) (ry : RepT X R H y (.dK true kvs)) (e : inK kvs dx = some b) : DHas x y H b := by
  obtain ⟨k, ek, rfl⟩ := Option.map_eq_some_iff.mp e
  obtain ⟨a, vs, rfl, h, r⟩ := ry.dK S
  have rx : Rep X R x dx := by
    rcases rx with rx | ⟨_, _, _, e, _⟩
    · exact rx
    · subst e; cases ek
  rw [key_v rx ek]
  refine ⟨a, _, rfl, .k h, ?_⟩
  rcases r.val k with ⟨e1, e2⟩ | ⟨d, v, e1, e2, _⟩ <;> (rw [e1, e2]; try rfl)
theorem inT_has {R : Rl} {H : Hp} {sto : Sto} {x y : V} {dx : D} {kvs : List (List L2.Key × D)} {b : Bool} (S : StOk X R H sto) (rx : RepT X R H x dx) (ry : RepT X R H y (.dT true kvs)) (e : inT kvs dx = some b) : DHas x y H b := by
  unfold inT at e
  split at e
  · obtain ⟨k, ek, rfl⟩ := Option.map_eq_some_iff.mp e
    obtain ⟨a, vs, rfl, h, r⟩ := ry.dT S
    obtain ⟨b, ws, rfl, hb, rb⟩ := rx.tupX S
    rw [keys_v rb ek] at hb
    refine ⟨a, _, rfl, .t h hb, ?_⟩
    rcases r.val k with ⟨e1, e2⟩ | ⟨d, v, e1, e2, _⟩ <;> (rw [e1, e2]; try rfl)
  · cases e
theorem flat_v {R : Rl} {x : V} {d : D} (r : Rep X R x d) (h : flatD d = true) : flatV x = true := by
  cases r <;> first | rfl | cases h
theorem eq_flat {R : Rl} {x y : V} {d e : D} (rx : Rep X R x d) (ry : Rep X R y e) (h1 : flatD d = true) (h2 : flatD e = true) : eqV x y = eqFlat d e := by
  cases rx <;> try (cases h1)
  all_goals (cases ry <;> first | rfl | (cases h2))
theorem all_flat {R : Rl} : ∀ {xs : List V} {ds : List D}, Reps X R xs ds → ds.all flatD = true → xs.all flatV = true
  | _, _, .nil, _ => rfl
  | _, _, .cons r t, h => by
    rw [List.all_cons, Bool.and_eq_true] at h
    rw [List.all_cons, flat_v r h.1, all_flat t h.2]; rfl
theorem any_flat {R : Rl} {x : V} {d : D} (rx : Rep X R x d) (h1 : flatD d = true) : ∀ {xs : List V} {ds : List D}, Reps X R xs ds → ds.all flatD = true → inV x xs = ds.any fun e => eqFlat e d
  | _, _, .nil, _ => rfl
  | _, _, .cons (vs := vs) (ds := ds) r t, h => by
    rw [List.all_cons, Bool.and_eq_true] at h
    have ih := any_flat rx h1 t h.2
    unfold inV at ih ⊢
    rw [List.any_cons, List.any_cons, eq_flat r rx h.1 h1, ih]
theorem RepT.flat {R : Rl} {H : Hp} {x : V} {d : D} (r : RepT X R H x d) (h : flatD d = true) : Rep X R x d := by
  rcases r with r | ⟨_, _, _, e, _⟩
  · exact r
  · subst e; cases h
theorem g_in : Op2 X (rIn3 X.K) (cmpD .In) := by
  intro W' R H sto x y dx dy k Q S rx ry o q
  obtain ⟨b, e, o⟩ := o.ofOptB
  have q := q _ _ (Out.pure o)
  unfold inD at e
  split at e
  · exact .inr (.inr (.inr (.inl ⟨b, inK_has S rx ry e, got S (.bl _) q⟩)))
  · exact .inr (.inr (.inr (.inl ⟨b, inT_has S rx ry e, got S (.bl _) q⟩)))
  · split at e
    · rename_i p ps e1 e2
      split at e
      · rename_i h
        rw [Bool.and_eq_true] at h
        cases e
        exact .inl ⟨p, ps, rx.dp S e1, ry.dp S (by simp only [toPy, e2]; rfl), h.1, h.2, got S (.bl _) q⟩
      · cases e
    · cases e
  · split at e
    · rename_i h
      rw [Bool.and_eq_true] at h
      cases e
      obtain ⟨b, ws, rfl, hb, rb⟩ := ry.tup S
      refine .inr (.inr (.inl ⟨b, ws, rfl, .inr hb, flat_v (rx.flat h.1) h.1, all_flat rb h.2, ?_⟩))
      have q2 : Q (.bl _) H := got S (.bl _) q
      rw [if_neg Bool.false_ne_true, any_flat (rx.flat h.1) h.1 rb h.2]
      exact q2
    · split at e
      · rename_i p ps e1 e2
        split at e
        · rename_i h
          rw [Bool.and_eq_true] at h
          cases e
          exact .inr (.inr (.inr (.inr ⟨_, ⟨p, ps, rx.dp S e1, ry.dp S (by simp only [toPy, e2]; rfl), h.1, h.2, rfl⟩, got S (.bl _) q⟩)))
        · cases e
      · cases e
  · split at e
    · split at e
      · rename_i h
        cases e
        rw [rx.str, ry.str]
        refine .inr (.inl ⟨_, _, ?_, rfl, got S (.bl _) q⟩)
        exact congrArg V.str (sign_eq h)
      · cases e
    · cases e
  · cases e
theorem g_notIn : Op2 X (rNotIn3 X.K) (cmpD .NotIn) := by
  intro W' R H sto x y dx dy k Q S rx ry o q
  obtain ⟨b, e, o⟩ := o.ofOptB
  have q := q _ _ (Out.pure o)
  unfold inD at e
  split at e
  · exact .inr (.inr (.inr (.inl ⟨b, inK_has S rx ry e, got S (.bl _) q⟩)))
  · exact .inr (.inr (.inr (.inl ⟨b, inT_has S rx ry e, got S (.bl _) q⟩)))
  · split at e
    · rename_i p ps e1 e2
      split at e
      · rename_i h
        rw [Bool.and_eq_true] at h
        cases e
        exact .inl ⟨p, ps, rx.dp S e1, ry.dp S (by simp only [toPy, e2]; rfl), h.1, h.2, got S (.bl _) q⟩
      · cases e
    · cases e
  · split at e
    · rename_i h
      rw [Bool.and_eq_true] at h
      cases e
      obtain ⟨b, ws, rfl, hb, rb⟩ := ry.tup S
      refine .inr (.inr (.inl ⟨b, ws, rfl, .inr hb, flat_v (rx.flat h.1) h.1, all_flat rb h.2, ?_⟩))
      have q2 : Q (.bl _) H := got S (.bl _) q
      rw [if_pos rfl, any_flat (rx.flat h.1) h.1 rb h.2]
      exact q2
    · split at e
      · rename_i p ps e1 e2
        split at e
        · rename_i h
          rw [Bool.and_eq_true] at h
          cases e
          exact .inr (.inr (.inr (.inr ⟨_, ⟨p, ps, rx.dp S e1, ry.dp S (by simp only [toPy, e2]; rfl), h.1, h.2, rfl⟩, got S (.bl _) q⟩)))
        · cases e
      · cases e
  · split at e
    · split at e
      · rename_i h
        cases e
        rw [rx.str, ry.str]
        refine .inr (.inl ⟨_, _, ?_, rfl, got S (.bl _) q⟩)
        exact congrArg V.str (sign_eq h)
      · cases e
    · cases e
  · cases e
abbrev rIs2 : R2 := fun x y H Q => rIsB x y H Q ∨ (y = .non ∧ Q (.bl (decide (x = .non))) H)
abbrev rNot2 : R2 := fun x y H Q => rNotB x y H Q ∨ (y = .non ∧ Q (.bl (!decide (x = .non))) H)
theorem op_is2 {C : Cx} : OpR C (compareOp .Is) rIs2 := op_isBl.or op_isN
theorem op_not2 {C : Cx} : OpR C (compareOp .IsNot) rNot2 := op_notBl.or op_notN
theorem isD_ok {R : Rl} {H : Hp} {x y : V} {dx dy : D} {b : Bool} (rx : RepT X R H x dx) (ry : RepT X R H y dy) (e : isD dx dy = some b) :
    (∃ a c, x = .bl a ∧ y = .bl c ∧ decide (a = c) = b) ∨ (y = .non ∧ decide (x = V.non) = b) := by
  unfold isD at e
  split at e
  · cases e; exact .inl ⟨_, _, rx.bl, ry.bl, rfl⟩
  · cases e; exact .inr ⟨ry.non, by rw [rx.non]; rfl⟩
  all_goals first
    | (cases e
       refine .inr ⟨ry.non, ?_⟩
       rcases rx with rx | ⟨_, _, _, e1, e2, _⟩
       · cases rx <;> rfl
       · subst e2; rfl)
    | cases e
theorem g_is : Op2 X rIs2 (cmpD .Is) := by
  intro W' R H sto x y dx dy k Q S rx ry o q
  obtain ⟨b, e, o⟩ := o.ofOptB
  have q := q _ _ (Out.pure o)
  rcases isD_ok rx ry e with ⟨a, c, e1, e2, e3⟩ | ⟨e1, e2⟩
  · exact .inl ⟨a, c, e1, e2, by rw [e3]; exact got S (.bl _) q⟩
  · exact .inr ⟨e1, by rw [e2]; exact got S (.bl _) q⟩
theorem g_isNot : Op2 X rNot2 (cmpD .IsNot) := by
  intro W' R H sto x y dx dy k Q S rx ry o q
  obtain ⟨b, e, o⟩ := o.ofOptB
  have q := q _ _ (Out.pure o)
  rcases isD_ok rx ry e with ⟨a, c, e1, e2, e3⟩ | ⟨e1, e2⟩
  · exact .inl ⟨a, c, e1, e2, by rw [e3]; exact got S (.bl _) q⟩
  · exact .inr ⟨e1, by rw [e2]; exact got S (.bl _) q⟩

/-! ### truth -/
theorem tru_of {R : Rl} {H : Hp} {sto : Sto} {x : V} {d : D} {b : Bool} (S : StOk X R H sto) (r : RepT X R H x d) (e : truth d = some b) : TruV X.K x H b := by
  unfold truth at e
  split at e
  · cases e; rw [r.non]; rfl
  · cases e; rw [r.bl]; rfl
  · cases e; rw [r.int]; rfl
  · split at e
    · rename_i h
      cases e; rw [r.str]; exact ⟨by rw [sizeLine_eq]; exact h, rfl⟩
    · cases e
  · cases e
    obtain ⟨a, vs, rfl, h, rs⟩ := r.tup S
    exact .inr (.inl ⟨vs, h, by cases rs <;> rfl⟩)
  · cases e
    obtain ⟨a, vs, rfl, h, rs⟩ := r.lst S
    exact .inl ⟨vs, .of h, by cases rs <;> rfl⟩
  · cases e
    obtain ⟨a, vs, rfl, h, rs⟩ := r.ro S
    exact .inl ⟨vs, h, by cases rs <;> rfl⟩
  · cases e
end

section
variable {X : Sx} {W : WD} {C : Cx} {a b c : Expr} {fa fb fc : Env → M D} {pos : Pos}
theorem dt_plain (hK : X.K = C.K) (ha : PE C a (tT X W fa)) (he : ∀ whole, isTrue a C.env whole = (do let v ← whole; standAt a.pos; holding [v] (truthy v))) :
    PT C a (tB X W fun env => (fa env).bind truM) := by
  refine (pt_truth ha he).weak fun σ H Q ⟨R, env, sto, S, E, o⟩ => ?_
  refine useT S E o fun v H1 R1 d s1 g1 S1 E1 r1 o1 => ?_
  obtain ⟨k, e, o2⟩ := o1.ofOpt
  refine ⟨k, ?_, o2 H1 R1 g1 S1⟩
  rw [← hK]; exact tru_of S1 r1 e
theorem dt_cmp {o : CmpOp} {r : R2} {g : D → D → M D} (ho : OpR C (compareOp o) r) (hg : Op2 X r g) (ha : PE C a (tT X W fa)) (hb : PE C b (tT X W fb)) (hm : behindInMarks o b = false) (hbl : ∀ x y W' (sto : Sto) (k : D → Sto → Prop), Out W' (g x y sto) k → Out W' (g x y sto) fun d s => k d s ∧ ∃ b, d = .bl b) :
    PT C (.Compare a [o] [b] pos) (tB X W fun env => ((fa env).bind fun x => (fb env).bind fun y => g x y).bind truM) := by
  refine (pt_cmpR ho ha hb hm).weak fun σ H Q ⟨R, env, sto, S, E, o⟩ => ?_
  have o := Out.bind o
  refine useT S E o fun v H1 R1 d s1 g1 S1 E1 r1 o1 => ?_
  have o1 : Out (wE X W R1 H1 σ) (((fb env).bind fun y => g d y) s1) _ := o1.imp (fun _ _ q => q) fun _ _ _ w H' R' g' S' => w H' R' (g1.trans g') S'
  refine useT S1 E1 o1 fun v2 H2 R2 d2 s2 g2 S2 E2 r2 o2 => ?_
  refine hg _ R2 H2 s2 v v2 d d2 _ _ S2 (r1.grow g2) r2 (hbl _ _ _ _ _ o2) fun d' s' q v' H' R' g' S' r' => ?_
  obtain ⟨q, b, rfl⟩ := q
  cases r'
  exact ⟨b, rfl, Out.pure (show Out _ (M.pure b s') _ from q) H' R' ((g1.trans g2).trans g') S'⟩
theorem bl_cmp (o : CmpOp) : ∀ x y W' (sto : Sto) (k : D → Sto → Prop), Out W' (cmpD o x y sto) k → Out W' (cmpD o x y sto) fun d s => k d s ∧ ∃ b, d = .bl b := by
  intro x y W' sto k h
  have gen : ∀ (ob : Option Bool) (f : Bool → Bool), Out W' (((ofOpt ob).bind fun b => (pure (D.bl (f b)) : M D)) sto) k → Out W' (((ofOpt ob).bind fun b => (pure (D.bl (f b)) : M D)) sto) fun d s => k d s ∧ ∃ b, d = .bl b := fun ob f h => by
    cases ob with
    | none => exact h
    | some b => exact ⟨h, _, rfl⟩
  cases o with
  | Eq => exact gen _ (fun b => b) h
  | NotEq => exact gen _ (fun b => !b) h
  | Lt => exact gen _ (fun b => b) h
  | In => exact gen _ (fun b => b) h
  | NotIn => exact gen _ (fun b => !b) h
  | Is => exact gen _ (fun b => b) h
  | IsNot => exact gen _ (fun b => !b) h
  | LtE => unfold cmpD at h ⊢; dsimp only at h ⊢; split at h <;> first | exact ⟨h, _, rfl⟩ | exact h
  | Gt => unfold cmpD at h ⊢; dsimp only at h ⊢; split at h <;> first | exact ⟨h, _, rfl⟩ | exact h
  | GtE => unfold cmpD at h ⊢; dsimp only at h ⊢; split at h <;> first | exact ⟨h, _, rfl⟩ | exact h
/-- not, by its operand's test -/
theorem dt_not (ha : PT C a (tB X W fun env => (fa env).bind truM)) : PT C (.UnaryOp .Not a pos) (tB X W fun env => ((fa env).bind fun x => (truM x).bind fun b => M.pure (.bl (!b))).bind truM) := by
  refine (pt_not ha).weak fun σ H Q ⟨R, env, sto, S, E, o⟩ => ?_
  refine ⟨R, env, sto, S, E, ?_⟩
  have e : (((fa env).bind fun x => (truM x).bind fun b => M.pure (.bl (!b))).bind truM) sto = ((((fa env).bind truM).bind fun b => M.pure (!b))) sto := by
    unfold M.bind truM
    cases fa env sto with
    | ok p =>
      obtain ⟨d, s⟩ := p
      dsimp only
      cases truth d with
      | none => rfl
      | some b => rfl
    | exc _ _ _ => rfl
    | stuck => rfl
  exact Out.bind (Out.conv e o)
theorem dx_not (hK : X.K = C.K) (ha : PE C a (tT X W fa)) : PE C (.UnaryOp .Not a pos) (tD X W fun env => (fa env).bind fun x => (truM x).bind fun b => M.pure (.bl (!b))) := by
  refine (pe_notT ha).weak fun σ H Q ⟨R, env, sto, S, E, o⟩ => ?_
  refine useT S E o fun v H1 R1 d s1 g1 S1 E1 r1 o1 => ?_
  obtain ⟨k, e, o2⟩ := o1.ofOptB
  exact ⟨k, hK ▸ tru_of S1 r1 e, o2.pure (.bl (!k)) H1 R1 g1 S1 (.bl _)⟩
theorem dx_neg (ha : PE C a (tT X W fa)) : PE C (.UnaryOp .USub a pos) (tD X W fun env => (fa env).bind fun x => match x with
    | .int i => M.pure (.int (-i))
    | _ => stuck) := by
  refine (pe_un un_neg ha).weak fun σ H Q ⟨R, env, sto, S, E, o⟩ => ?_
  refine useT S E o fun v H1 R1 d s1 g1 S1 E1 r1 o1 => ?_
  split at o1
  · rw [r1.int]; exact ⟨_, rfl, o1.pure (.int _) H1 R1 g1 S1 (.int _)⟩
  · exact o1.elim
theorem dx_inv (ha : PE C a (tT X W fa)) : PE C (.UnaryOp .Invert a pos) (tD X W fun env => (fa env).bind fun x => match x with
    | .int i => M.pure (.int (Builtin.bitNot i))
    | _ => stuck) := by
  refine (pe_un un_inv ha).weak fun σ H Q ⟨R, env, sto, S, E, o⟩ => ?_
  refine useT S E o fun v H1 R1 d s1 g1 S1 E1 r1 o1 => ?_
  split at o1
  · rw [r1.int]; exact ⟨_, rfl, o1.pure (.int _) H1 R1 g1 S1 (.int _)⟩
  · exact o1.elim
/-- from a first step on -/
theorem wE_on {R R1 : Rl} {H H1 : Hp} {σ : L2.St} (g : Grow R H R1 H1) : ∀ c fs s, wE X W R H σ c fs s → wE X W R1 H1 σ c fs s := fun _ _ _ w H' R' g' S' => w H' R' (g.trans g') S'
theorem dx_ite {tr : Bool} (hc : PT C c (tB X W fun env => (fc env).bind truM)) (ha : PE C a (tX X W tr fa)) (hb : PE C b (tX X W tr fb)) :
    PE C (.IfExp c a b pos) (tX X W tr fun env => (fc env).bind fun x => (truM x).bind fun k => if k then fa env else fb env) := by
  refine (pe_ifExp hc ha hb).weak fun σ H Q h => ?_
  have key : ∀ (P : Rl → Hp → V → D → Prop) R env sto, StOk X R H sto → EnvOk X R H σ env → Out (wE X W R H σ) (((fc env).bind fun x => (truM x).bind fun k => if k then fa env else fb env) sto) (fun d s' => ∀ v H' R', Grow R H R' H' → StOk X R' H' s' → P R' H' v d → Q v H') →
      (∀ b H1, (∃ R1 env s1, StOk X R1 H1 s1 ∧ EnvOk X R1 H1 σ env ∧ Out (wE X W R1 H1 σ) ((if b then fa env else fb env) s1) (fun d s' => ∀ v H' R', Grow R1 H1 R' H' → StOk X R' H' s' → P R' H' v d → Q v H')) → (if b = true then tX X W tr fa σ H1 Q else tX X W tr fb σ H1 Q)) →
      tB X W (fun env => (fc env).bind truM) σ H fun c H1 => if c = true then tX X W tr fa σ H1 Q else tX X W tr fb σ H1 Q := fun P R env sto S E o hk => by
    have e : ((fc env).bind fun x => (truM x).bind fun k => if k then fa env else fb env) sto = (((fc env).bind truM).bind fun k => if k then fa env else fb env) sto := by
      unfold M.bind
      cases fc env sto <;> rfl
    have o := Out.conv e o
    refine ⟨R, env, sto, S, E, (Out.bind o).imp (fun b s1 o1 H1 R1 g1 S1 => ?_) fun _ _ _ w => w⟩
    exact hk b H1 ⟨R1, env, s1, S1, E.grow g1, o1.imp (fun d s' q v H' R' g' S' r => q v H' R' (g1.trans g') S' r) (wE_on g1)⟩
  cases tr with
  | true =>
    obtain ⟨R, env, sto, S, E, o⟩ := h
    refine key (fun R' H' v d => RepT X R' H' v d) R env sto S E o fun b H1 ⟨R1, env, s1, S1, E1, o1⟩ => ?_
    cases b with
    | true => exact ⟨R1, env, s1, S1, E1, o1⟩
    | false => exact ⟨R1, env, s1, S1, E1, o1⟩
  | false =>
    obtain ⟨R, env, sto, S, E, o⟩ := h
    refine key (fun R' H' v d => Rep X R' v d) R env sto S E o fun b H1 ⟨R1, env, s1, S1, E1, o1⟩ => ?_
    cases b with
    | true => exact ⟨R1, env, s1, S1, E1, o1⟩
    | false => exact ⟨R1, env, s1, S1, E1, o1⟩
/-! and, or: in the permanent mode -/
theorem dx_and1 {op : BoolOp} (ha : PE C a (tD X W fa)) : PE C (.BoolOp op [a] pos) (tD X W fa) := pe_one ha
theorem dx_and {rest : List Expr} (hK : X.K = C.K) (ha : PE C a (tD X W fa)) (hb : PE C (.BoolOp .And (b :: rest) pos) (tD X W fb)) :
    PE C (.BoolOp .And (a :: b :: rest) pos) (tD X W fun env => (fa env).bind fun x => (truM x).bind fun k => if k then fb env else M.pure x) := by
  refine (pe_andT ha hb).weak fun σ H Q ⟨R, env, sto, S, E, o⟩ => ?_
  refine useD S E o fun v H1 R1 d s1 g1 S1 E1 r1 o1 => ?_
  obtain ⟨k, e, o2⟩ := o1.ofOptB
  refine ⟨k, hK ▸ tru_of S1 (.inl r1) e, ?_⟩
  cases k with
  | true => exact ⟨R1, env, s1, S1, E1, Out.imp o2 (fun d s' q v H' R' g' S' r => q v H' R' (g1.trans g') S' r) (wE_on g1)⟩
  | false => exact Out.pure (show Out _ (M.pure d s1) _ from o2) v H1 R1 g1 S1 r1
theorem dx_or {rest : List Expr} (hK : X.K = C.K) (ha : PE C a (tD X W fa)) (hb : PE C (.BoolOp .Or (b :: rest) pos) (tD X W fb)) :
    PE C (.BoolOp .Or (a :: b :: rest) pos) (tD X W fun env => (fa env).bind fun x => (truM x).bind fun k => if k then M.pure x else fb env) := by
  refine (pe_orT ha hb).weak fun σ H Q ⟨R, env, sto, S, E, o⟩ => ?_
  refine useD S E o fun v H1 R1 d s1 g1 S1 E1 r1 o1 => ?_
  obtain ⟨k, e, o2⟩ := o1.ofOptB
  refine ⟨k, hK ▸ tru_of S1 (.inl r1) e, ?_⟩
  cases k with
  | false => exact ⟨R1, env, s1, S1, E1, Out.imp o2 (fun d s' q v H' R' g' S' r => q v H' R' (g1.trans g') S' r) (wE_on g1)⟩
  | true => exact Out.pure (show Out _ (M.pure d s1) _ from o2) v H1 R1 g1 S1 r1
/-! and, or as tests -/
theorem dw_one {op : BoolOp} (ha : PT C a (tB X W fun env => (fa env).bind truM)) : PW C (.BoolOp op [a] pos) (tB X W fun env => (fa env).bind truM) := by
  cases op with
  | And => exact pw_and1 ha
  | Or => exact pw_or1 ha
theorem and_tru (m : M D) (m2 : M D) (s : Sto) : ((m.bind fun x => (truM x).bind fun k => if k then m2 else M.pure x).bind truM) s = (((m.bind truM).bind fun k => if k then m2.bind truM else M.pure false)) s := by
  unfold M.bind
  cases m s with
  | ok p =>
    obtain ⟨d, s1⟩ := p
    dsimp only
    unfold truM
    cases e : truth d with
    | none => rfl
    | some b =>
      cases b with
      | true => rfl
      | false => show (match (ofOpt (truth d) : M Bool) s1 with | _ => _) = _; simp [ofOpt, e, M.pure]
  | exc _ _ _ => rfl
  | stuck => rfl
theorem or_tru (m : M D) (m2 : M D) (s : Sto) : ((m.bind fun x => (truM x).bind fun k => if k then M.pure x else m2).bind truM) s = (((m.bind truM).bind fun k => if k then M.pure true else m2.bind truM)) s := by
  unfold M.bind
  cases m s with
  | ok p =>
    obtain ⟨d, s1⟩ := p
    dsimp only
    unfold truM
    cases e : truth d with
    | none => rfl
    | some b =>
      cases b with
      | false => rfl
      | true => simp [ofOpt, e, M.pure]
  | exc _ _ _ => rfl
  | stuck => rfl
theorem dw_and {rest : List Expr} (ha : PT C a (tB X W fun env => (fa env).bind truM)) (hb : PW C (.BoolOp .And (b :: rest) pos) (tB X W fun env => (fb env).bind truM)) :
    PW C (.BoolOp .And (a :: b :: rest) pos) (tB X W fun env => ((fa env).bind fun x => (truM x).bind fun k => if k then fb env else M.pure x).bind truM) := by
  have h := pw_and ha hb
  refine ⟨fun whole pins s σ H Q I q => h.run whole pins s σ H Q I ?_⟩
  obtain ⟨R, env, sto, S, E, o⟩ := q
  have o := Out.conv (and_tru _ _ _) o
  refine ⟨R, env, sto, S, E, (Out.bind o).imp (fun k s1 o1 H1 R1 g1 S1 => ?_) fun _ _ _ w => w⟩
  cases k with
  | true => exact ⟨R1, env, s1, S1, E.grow g1, Out.imp o1 (fun d s' q H' R' g' S' => q H' R' (g1.trans g') S') (wE_on g1)⟩
  | false => exact Out.pure (show Out _ (M.pure false s1) _ from o1) H1 R1 g1 S1
theorem dw_or {rest : List Expr} (ha : PT C a (tB X W fun env => (fa env).bind truM)) (hb : PW C (.BoolOp .Or (b :: rest) pos) (tB X W fun env => (fb env).bind truM)) :
    PW C (.BoolOp .Or (a :: b :: rest) pos) (tB X W fun env => ((fa env).bind fun x => (truM x).bind fun k => if k then M.pure x else fb env).bind truM) := by
  have h := pw_or ha hb
  refine ⟨fun whole pins s σ H Q I q => h.run whole pins s σ H Q I ?_⟩
  obtain ⟨R, env, sto, S, E, o⟩ := q
  have o := Out.conv (or_tru _ _ _) o
  refine ⟨R, env, sto, S, E, (Out.bind o).imp (fun k s1 o1 H1 R1 g1 S1 => ?_) fun _ _ _ w => w⟩
  cases k with
  | false => exact ⟨R1, env, s1, S1, E.grow g1, Out.imp o1 (fun d s' q H' R' g' S' => q H' R' (g1.trans g') S') (wE_on g1)⟩
  | true => exact Out.pure (show Out _ (M.pure true s1) _ from o1) H1 R1 g1 S1
end
end Bc

set_option linter.all false
set_option autoImplicit false
set_option maxRecDepth 100000
set_option maxHeartbeats 1000000
namespace Bc
open PySem PySem.Spec PyProof.Rows L2
/-! ### zip of a tuple with a list -/
section
variable {prog : Program} {w : World} {A : Around}
/-- an iterator that has come to its end, or stands behind it -/
theorem tupEnd (hh : A.handled = none) (it t : Addr) (items : Array Value) (n : Nat) (hn : items.size ≤ n) :
    Draws prog w A it [it, t] n (fun _ _ => True) (fun j h => j = n ∧ h.IsTupleIter it t j ∧ h.IsTuple t items) where
  live := fun _ _ g => g.2.1.elim fun o g => ⟨o, g.1⟩
  frame := fun _ _ _ g up => ⟨g.1, g.2.1.at fun o e => up it (by simp) o e, g.2.2.at fun o e => up t (by simp) o e⟩
  item := fun j _ _ _ lt g _ => absurd g.1 (Nat.ne_of_lt lt)
  done := fun _ _ _ g out => wpAny_nextOf_tuple_end hh g.2.1 g.2.2 (by simpa using hn) out
theorem lstEnd (hh : A.handled = none) (it t : Addr) (items : Array Value) (n : Nat) (hn : items.size ≤ n) :
    Draws prog w A it [it, t] n (fun _ _ => True) (fun j h => j = n ∧ h.IsListIter it t j ∧ h.IsList t items) where
  live := fun _ _ g => g.2.1.elim fun o g => ⟨o, g.1⟩
  frame := fun _ _ _ g up => ⟨g.1, g.2.1.at fun o e => up it (by simp) o e, g.2.2.at fun o e => up t (by simp) o e⟩
  item := fun j _ _ _ lt g _ => absurd g.1 (Nat.ne_of_lt lt)
  done := fun _ _ _ g out => wpAny_nextOf_list_end hh g.2.1 g.2.2 (by simpa using hn) out
end
/-- the tuple at a and the list at b as they stand at each turn -/
def ItTL (K : PySem.W.Frag) (a b : Addr) : It where
  go := fun i H => ∃ (xs ys : List V) (x y : V), SqT K H a xs ∧ SqL K H b ys ∧ xs[i]? = some x ∧ ys[i]? = some y
  yld := fun i H v H' => ∃ T x y, v = .ref T ∧ H T = none ∧ H' = upd H T (.tup [x, y]) ∧ (∀ xs, SqT K H a xs → xs[i]? = some x) ∧ ∀ ys, SqL K H b ys → ys[i]? = some y
  stop := fun i H => ∃ xs ys : List V, SqT K H a xs ∧ SqL K H b ys ∧ (xs.length ≤ i ∨ ys.length ≤ i)
abbrev MixSt (a b z TI TO i1 i2 : Addr) (i : Nat) (h : Heap) : Prop := IsZip h z TI TO .none ∧ IsTupOf2 h TI (.ref i1) (.ref i2) ∧ (∃ x y, IsTupOf2 h TO x y) ∧ h.IsTupleIter i1 a i ∧ h.IsListIter i2 b i
theorem mix_sep {a b z TI TO i1 i2 : Addr} (D : ZipApart z TI TO i1 i2 a b) : ZipSep2 z TI TO i1 i2 [i1, a] [i2, b] := by
  have n := fun {u v : Addr} (h : u ≠ v) => h.symm
  refine ⟨D.TIz, D.TOz, D.TITO, D.TIi1, ?_, ?_, ?_, D.TIi2, ?_, ?_, ?_, ?_, ?_⟩ <;> simp
  · exact ⟨n D.i1z, n D.l1z⟩
  · exact ⟨D.TOi1, n D.l1TO⟩
  · exact ⟨n D.i2z, n D.l2z⟩
  · exact ⟨D.TOi2, n D.l2TO⟩
  · exact ⟨D.i12, n D.l2i1⟩
  · exact ⟨n D.i12, n D.l1i2⟩
theorem mix_turn {P : Program} {w : World} {K : PySem.W.Frag} {elts : List Expr} {kk : Nat} {tpos : Pos} {a b z TI TO i1 i2 : Addr} (D : ZipApart z TI TO i1 i2 a b) :
    Turn P w K (.Tuple elts kk tpos) (ItTL K a b) [z, TI, TO, i1, i2] z (MixSt a b z TI TO i1 i2) where
  mem := List.mem_cons_self ..
  obj := by
    rintro i h ⟨g1, g2, ⟨x, y, g3⟩, ⟨o4, g4, _, d4⟩, ⟨o5, g5, _, d5⟩⟩ c hc
    simp only [List.mem_cons, List.not_mem_nil, or_false] at hc
    rcases hc with rfl | rfl | rfl | rfl | rfl
    · exact ⟨_, g1, nofun⟩
    · exact ⟨_, g2, nofun⟩
    · exact ⟨_, g3, nofun⟩
    · exact ⟨o4, g4, by rw [d4]; nofun⟩
    · exact ⟨o5, g5, by rw [d5]; nofun⟩
  keep := by
    rintro i h h' ⟨g1, g2, ⟨x, y, g3⟩, g4, g5⟩ up
    exact ⟨up z (by simp) _ g1, up TI (by simp) _ g2, ⟨x, y, up TO (by simp) _ g3⟩, g4.at fun o e => up i1 (by simp) o e, g5.at fun o e => up i2 (by simp) o e⟩
  item := by
    rintro X rfl rfl rfl hc i pins s σ H E I free ⟨g1, g2, ⟨x0, y0, g3⟩, g4, g5⟩ ⟨xs, ys, x, y, qx, qy, ex, ey⟩
    obtain ⟨us, ru, pu, _⟩ := I.tuple qx
    obtain ⟨vs, rv, pv, _⟩ := I.list qy
    obtain ⟨u, eu, rlu⟩ := ru.get ex
    obtain ⟨v, ev, rlv⟩ := rv.get ey
    have D1 := Draws.tuple (prog := X.prog) (w := X.w) (A := X.A.in1) (show X.A.in1.handled = none from I.ok.hd hc) i1 a D.l1i1 us.toArray
    have D2 := Draws.list (prog := X.prog) (w := X.w) (A := X.A.in1) (show X.A.in1.handled = none from I.ok.hd hc) i2 b D.l2i2 vs.toArray
    have lt1 : i < us.toArray.size := by have := (List.getElem?_eq_some_iff.1 eu).1; simpa using this
    have lt2 : i < vs.toArray.size := by have := (List.getElem?_eq_some_iff.1 ev).1; simpa using this
    have hz := Heap.lt_size g1
    refine wpAny_pyNext_zipD2_item (mix_sep D) D1 D2 g1 g2 g3 ⟨g4, pu⟩ ⟨g5, pv.isList⟩ lt1 lt2 fun x1 x2 h1 tk p1 p2 z1 t1 s1 s2 nw sz up => ?_
    have f1 : x1 = u := by
      have p1 : us.toArray[i]? = some x1 := p1
      rw [show us.toArray[i]? = us[i]? by simp, eu] at p1
      exact (Option.some.inj p1).symm
    have f2 : x2 = v := by
      have p2 : vs.toArray[i]? = some x2 := p2
      rw [show vs.toArray[i]? = vs[i]? by simp, ev] at p2
      exact (Option.some.inj p2).symm
    subst f1 f2
    refine ⟨_, rfl, wpAny_letOwnedTupleGo_zip (s := { s with heap := h1, toks := tk }) z1 fun h2 z2 sb => ?_⟩
    have over : ∀ c o, c ≠ z → h1.get? c = some o → h2.get? c = some o := fun c o ne e => (sb.2 c ne).trans e
    have nw2 := over _ _ (Nat.ne_of_gt hz) nw
    have made : ObjOk X.prog X.w (upd H s.heap.objs.size (.tup [x, y])) h2 s.heap.objs.size (.tup [x, y]) := ⟨by show 2 ≤ sizeLine; decide, [x1, x2], .cons rlu (.cons rlv .nil), ⟨_, nw2, rfl, _, rfl⟩⟩
    have I2 : Inv X pins σ (upd H s.heap.objs.size (.tup [x, y])) { s with heap := h2, toks := tk } :=
      I.turnedNew (t' := tk) (ch := [z, TI, TO, i1, i2]) (fun c o nc e => by
        simp only [List.mem_cons, List.not_mem_nil, or_false, not_or] at nc
        obtain ⟨n1, _, n3, n4, n5⟩ := nc
        exact over c o n1 (up c o n1 n3 n4 n5 e)) free (Nat.le_refl _) made
    refine ⟨.ref s.heap.objs.size, _, I2, rfl, ⟨_, x, y, rfl, I.hok.fresh (Nat.le_refl _), rfl, fun l hl => I.tuple_inj hl qx ▸ ex, fun l hl => I.list_inj hl qy ▸ ey⟩,
      ⟨z2, over _ _ D.TIz (up _ _ D.TIz D.TITO D.TIi1 D.TIi2 g2), ⟨x1, x2, over _ _ D.TOz t1⟩, s1.1.at fun o e => over _ o D.i1z e, s2.1.at fun o e => over _ o D.i2z e⟩, fun c hc => ?_⟩
    have old : c < s.heap.objs.size := by
      have hc := hc
      simp only [List.mem_cons, List.not_mem_nil, or_false] at hc
      rcases hc with rfl | rfl | rfl | rfl | rfl
      · exact hz
      · exact Heap.lt_size g2
      · exact Heap.lt_size g3
      · exact g4.elim fun _ g => Heap.lt_size g.1
      · exact g5.elim fun _ g => Heap.lt_size g.1
    rw [upd_ne (Nat.ne_of_lt old)]
    exact (free c hc).1
  done := by
    rintro X rfl rfl rfl hc i pins s σ H E I free ⟨g1, g2, ⟨x0, y0, g3⟩, g4, g5⟩ ⟨xs, ys, qx, qy, out⟩
    obtain ⟨us, ru, pu, _⟩ := I.tuple qx
    obtain ⟨vs, rv, pv, _⟩ := I.list qy
    have l1 := ru.length
    have l2 := rv.length
    have hh : X.A.in1.handled = none := I.ok.hd hc
    have fin : ∀ h1 tk, (∀ c o, c ≠ z → c ≠ TO → c ≠ i1 → c ≠ i2 → s.heap.get? c = some o → h1.get? c = some o) → (none : Option Value) = none ∧ Inv X pins σ H { s with heap := h1, toks := tk } := fun h1 tk up =>
      ⟨rfl, I.turnedL (t' := tk) (ch := [z, TI, TO, i1, i2]) (fun c o nc e => by
        simp only [List.mem_cons, List.not_mem_nil, or_false, not_or] at nc
        obtain ⟨n1, _, n3, n4, n5⟩ := nc
        exact up c o n1 n3 n4 n5 e) free⟩
    by_cases c1 : us.toArray.size ≤ i
    · by_cases c2 : vs.toArray.size ≤ i
      · exact wpAny_pyNext_zipD2_end (mix_sep D) (tupEnd hh i1 a us.toArray i c1) (lstEnd hh i2 b vs.toArray i c2) g1 g2 g3 ⟨rfl, g4, pu⟩ ⟨rfl, g5, pv.isList⟩ (Nat.le_refl _) (Nat.le_refl _) (.inl rfl) fin
      · exact wpAny_pyNext_zipD2_end (mix_sep D) (tupEnd hh i1 a us.toArray i c1) (Draws.list hh i2 b D.l2i2 vs.toArray) g1 g2 g3 ⟨rfl, g4, pu⟩ ⟨g5, pv.isList⟩ (Nat.le_refl _) (by omega) (.inl rfl) fin
    · have c2 : vs.toArray.size ≤ i := by simp at c1 ⊢; omega
      exact wpAny_pyNext_zipD2_end (mix_sep D) (Draws.tuple hh i1 a D.l1i1 us.toArray) (lstEnd hh i2 b vs.toArray i c2) g1 g2 g3 ⟨g4, pu⟩ ⟨rfl, g5, pv.isList⟩ (by omega) (Nat.le_refl _) (.inr rfl) fin
  self := fun _ _ _ _ _ g q => wpAny_pyIter_zip g.1 q
/-- two sequences, each a list or a tuple, and what zip makes of them -/
inductive ZipOf (K : PySem.W.Frag) (H : Hp) (a b : Addr) : It → Prop
  | ll {xs ys : List V} : SqL K H a xs → SqL K H b ys → ZipOf K H a b (Itz K a b)
  | tt {xs ys : List V} : SqT K H a xs → SqT K H b ys → ZipOf K H a b (RZ.ItzT K a b)
  | tl {xs ys : List V} : SqT K H a xs → SqL K H b ys → ZipOf K H a b (ItTL K a b)
def iZipM (K : PySem.W.Frag) (ta : TA) : TI := fun σ H R => ta σ H fun vs H1 => ∃ a b J, vs = [.ref a, .ref b] ∧ ZipOf K H1 a b J ∧ R J H1
theorem pi_zipM {X : Cx} {e e2 : Expr} {ta : TA} {p pos tpos : Pos} {elts : List Expr} {kk : Nat} (hg : Gl X "zip") (hm : X.mg "zip" = none) (ha : PA X [e, e2] ta)
    (hs : starEach [e, e2] X.env = (false, eval e X.env) :: starEach [e2] X.env) (hpl : (backTo pos (starEach [e2] X.env)).any (·.1) = false) :
    PI X (.Tuple elts kk tpos) (.Call (.Name "zip" p) [e, e2] [] pos) (iZipM X.K ta) := by
  refine ⟨fun pins s σ H R I h => Call_ (ld_blt I hg hm PyProof.Rows.boot_zip (PyProof.Rows.callWith_type1 (thn (ha.run pos pins s σ H _ I h) ?_) hs hpl))⟩
  rintro us s1 ⟨vs, H1, I1, r1, a, b, J, rfl, k, q⟩
  obtain ⟨u, v, rfl, ru, rv⟩ : ∃ u v, us = [u, v] ∧ RelV (.ref a) u ∧ RelV (.ref b) v := by
    cases r1 with
    | cons r rr => cases rr with
      | cons r' rr => cases rr; exact ⟨_, _, rfl, r, r'⟩
  cases ru
  cases rv
  have young : ∀ c ∈ [s1.heap.objs.size + 4, s1.heap.objs.size + 2, s1.heap.objs.size + 3, s1.heap.objs.size, s1.heap.objs.size + 1], FpOk X pins H1 c := fun c hc => by
    simp only [List.mem_cons, List.not_mem_nil, or_false] at hc
    have le : s1.heap.objs.size ≤ c := by omega
    exact I1.fpOk le (I1.hok.fresh le)
  cases k with
  | ll qx qy =>
    obtain ⟨xs, _, px, _⟩ := I1.list qx
    obtain ⟨ys, _, py, _⟩ := I1.list qy
    refine zip_begins2 (begins_list a xs.toArray) (begins_list b ys.toArray) px.isList py.isList fun h g1 g2 g3 g4 g5 _ up => wpAny_pyIter_zip g1 ?_
    exact ⟨_, _, _, _, H1, rfl, I1.kept (t' := s1.toks) up, turn_zip (PySem.W.ktu_apart s1.heap.objs.size a b px.lt py.lt), ⟨g1, g2, ⟨_, _, g3⟩, ⟨_, g4, rfl, rfl⟩, ⟨_, g5, rfl, rfl⟩⟩, young, q⟩
  | tt qx qy =>
    obtain ⟨xs, _, px, _⟩ := I1.tuple qx
    obtain ⟨ys, _, py, _⟩ := I1.tuple qy
    have lx := px.elim fun _ g => Heap.lt_size g.1
    have ly := py.elim fun _ g => Heap.lt_size g.1
    refine zip_begins2 (begins_tuple a xs.toArray) (begins_tuple b ys.toArray) px py fun h g1 g2 g3 g4 g5 _ up => wpAny_pyIter_zip g1 ?_
    exact ⟨_, _, _, _, H1, rfl, I1.kept (t' := s1.toks) up, RZ.turn_zipT (PySem.W.ktu_apart s1.heap.objs.size a b lx ly), ⟨g1, g2, ⟨_, _, g3⟩, ⟨_, g4, rfl, rfl⟩, ⟨_, g5, rfl, rfl⟩⟩, young, q⟩
  | tl qx qy =>
    obtain ⟨xs, _, px, _⟩ := I1.tuple qx
    obtain ⟨ys, _, py, _⟩ := I1.list qy
    have lx := px.elim fun _ g => Heap.lt_size g.1
    refine zip_begins2 (begins_tuple a xs.toArray) (begins_list b ys.toArray) px py.isList fun h g1 g2 g3 g4 g5 _ up => wpAny_pyIter_zip g1 ?_
    exact ⟨_, _, _, _, H1, rfl, I1.kept (t' := s1.toks) up, mix_turn (PySem.W.ktu_apart s1.heap.objs.size a b lx py.lt), ⟨g1, g2, ⟨_, _, g3⟩, ⟨_, g4, rfl, rfl⟩, ⟨_, g5, rfl, rfl⟩⟩, young, q⟩
end Bc

set_option linter.all false
set_option autoImplicit false
set_option maxRecDepth 100000
set_option maxHeartbeats 1000000
namespace Bc
open PySem PySem.Spec L2

/-- a walk yields the items, wherever P holds -/
structure JOk (X : Sx) (P : Rl → Hp → Prop) (J : It) (items : List D) : Prop where
  go : ∀ (R : Rl) (H : Hp) (s : Sto) (i : Nat) (d : D), P R H → StOk X R H s → items[i]? = some d →
    J.go i H ∧ ∀ x H', J.yld i H x H' → ∃ R', Grow R H R' H' ∧ StOk X R' H' s ∧ Rep X R' x d
  stop : ∀ (R : Rl) (H : Hp) (s : Sto) (i : Nat), P R H → StOk X R H s → items.length ≤ i → J.stop i H
/-- what a walk leans on: in a block all that was tracked, in a loop what is frozen -/
def Pw (R0 : Rl) (H0 : Hp) (tr : Bool) : Rl → Hp → Prop := fun R H => if tr then Grow R0 H0 R H else RLe R0 R
/-- a value that a walk walks: in a loop a permanent one -/
def RepM (X : Sx) (R : Rl) (H : Hp) (tr : Bool) (v : V) (d : D) : Prop := if tr then RepT X R H v d else Rep X R v d
theorem RepM.on {X : Sx} {R0 R : Rl} {H0 H : Hp} {tr : Bool} {v : V} {d : D} (p : Pw R0 H0 tr R H) (r : RepM X R0 H0 tr v d) : RepT X R H v d := by
  cases tr with
  | true => exact RepT.grow (show Grow R0 H0 R H from p) r
  | false => exact .inl (Rep.mono (show RLe R0 R from p) _ r)
def tI (X : Sx) (W : WD) (tr : Bool) (f : Env → M (List D)) : TI := fun σ H K => ∃ R env sto, StOk X R H sto ∧ EnvOk X R H σ env ∧
  Out (wE X W R H σ) (f env sto) fun items s' => ∀ J H' R', Grow R H R' H' → StOk X R' H' s' → JOk X (Pw R' H' tr) J items → K J H'
theorem PI.weak {C : Cx} {tg e : Expr} {t t' : TI} (h : PI C tg e t) (w : ∀ σ H Q, t' σ H Q → t σ H Q) : PI C tg e t' := ⟨fun pins s σ H Q I q => h.run pins s σ H Q I (w σ H Q q)⟩

section
variable {X : Sx} {W : WD} {C : Cx} {tg : Expr} {tr : Bool}
/-- a list, a tuple or a text, whichever it is -/
def iSeq (K : PySem.W.Frag) (tl : TE) : TI := fun σ H R => tl σ H fun x H1 => (∃ a, x = .ref a ∧ (((∃ xs, SqL K H1 a xs) ∧ R (Itl K a) H1) ∨ ((∃ xs, SqT K H1 a xs) ∧ R (Itt K a) H1))) ∨ ∃ z, x = .str z ∧ R (Its z) H1
theorem pi_seq {l : Expr} {tl : TE} (hl : PE C l tl) : PI C tg l (iSeq C.K tl) := by
  refine ⟨fun pins s σ H R I h => ?_⟩
  refine thn (hl.run pins s σ H _ I h) fun v s1 ⟨x, H1, I1, r1, q1⟩ => ?_
  rcases q1 with ⟨a, e, q1⟩ | ⟨z, e, q⟩
  · subst e
    cases r1
    rcases q1 with ⟨⟨xs, hq⟩, q⟩ | ⟨⟨xs, hq⟩, q⟩
    · obtain ⟨its, rv, p, hz⟩ := I1.list hq
      exact wpAny_pyIter_list p.isList (pi_one (tk := s1.toks) I1 _ (turn_list a _) ⟨_, Heap.get?_push_size _ rfl, rfl, rfl⟩ q)
    · obtain ⟨its, rv, p, hz⟩ := I1.tuple hq
      exact wpAny_pyIter_tuple (show s1.heap.IsTuple a its.toArray from p) (pi_one (tk := s1.toks) I1 _ (turn_tuple a _) ⟨_, Heap.get?_push_size _ rfl, rfl, rfl⟩ q)
  · subst e
    obtain ⟨t, rfl⟩ := r1
    cases ha : z.cps.all (· < 128)
    · exact wpAny_pyIter_wide ha (pi_one (tk := s1.toks) I1 _ (turn_str _ z t "str_iterator" (.inr rfl)) ⟨_, Heap.get?_push_size _ rfl, rfl, rfl⟩ q)
    · exact wpAny_pyIter_ascii ha (pi_one (tk := s1.toks) I1 _ (turn_str _ z t "str_ascii_iterator" (.inl rfl)) ⟨_, Heap.get?_push_size _ rfl, rfl, rfl⟩ q)
theorem jok_str {P : Rl → Hp → Prop} {z : Str} : JOk X P (Its z) (z.cps.toList.map fun c => .str ⟨#[c]⟩) where
  go := fun R H s i d p S e => by
    rw [List.getElem?_map] at e
    obtain ⟨c, hc, rfl⟩ := Option.map_eq_some_iff.mp e
    have hc2 : z.cps[i]? = some c := by rw [← Array.getElem?_toList]; exact hc
    refine ⟨(Array.getElem?_eq_some_iff.mp hc2).1, fun x H' y => ?_⟩
    obtain ⟨rfl, c', e', rfl⟩ := y
    rw [hc2] at e'
    cases e'
    exact ⟨R, Grow.refl _ _, S, .str _⟩
  stop := fun R H s i p S h => by
    rw [List.length_map] at h
    show z.cps.size ≤ i
    simpa using h
theorem jok_list {R0 : Rl} {H0 : Hp} {a : Addr} {d : D} {ds : List D} (hs : ∀ (R : Rl) (H : Hp) (s : Sto), Pw R0 H0 tr R H → StOk X R H s → ∃ vs, SqL X.K H a vs ∧ Reps X R vs ds) : JOk X (Pw R0 H0 tr) (Itl X.K a) ds where
  go := fun R H s i d p S e => by
    obtain ⟨vs, h, r⟩ := hs R H s p S
    obtain ⟨v, e1, r1⟩ := r.get e
    refine ⟨⟨vs, v, h, e1⟩, fun x H' y => ?_⟩
    obtain ⟨rfl, y⟩ := y
    have := (y vs h).symm.trans e1
    cases this
    exact ⟨R, Grow.refl _ _, S, r1⟩
  stop := fun R H s i p S e => by
    obtain ⟨vs, h, r⟩ := hs R H s p S
    exact ⟨vs, h, by rw [r.length]; exact e⟩
theorem jok_tup {R0 : Rl} {H0 : Hp} {a : Addr} {ds : List D} (hs : ∀ (R : Rl) (H : Hp) (s : Sto), Pw R0 H0 tr R H → StOk X R H s → ∃ vs, SqT X.K H a vs ∧ Reps X R vs ds) : JOk X (Pw R0 H0 tr) (Itt X.K a) ds where
  go := fun R H s i d p S e => by
    obtain ⟨vs, h, r⟩ := hs R H s p S
    obtain ⟨v, e1, r1⟩ := r.get e
    refine ⟨⟨vs, v, h, e1⟩, fun x H' y => ?_⟩
    obtain ⟨rfl, y⟩ := y
    have := (y vs h).symm.trans e1
    cases this
    exact ⟨R, Grow.refl _ _, S, r1⟩
  stop := fun R H s i p S e => by
    obtain ⟨vs, h, r⟩ := hs R H s p S
    exact ⟨vs, h, by rw [r.length]; exact e⟩
/-- the walked value is a list at a | a tuple at a -/
theorem seq_at {R0 : Rl} {H0 : Hp} {s0 : Sto} {v : V} {d : D} {ds : List D} (S0 : StOk X R0 H0 s0) (r : RepM X R0 H0 tr v d) (e : asSeq d = some ds) :
    ∃ a, v = .ref a ∧ ((∀ (R : Rl) (H : Hp) (s : Sto), Pw R0 H0 tr R H → StOk X R H s → ∃ vs, SqL X.K H a vs ∧ Reps X R vs ds) ∨ (∀ (R : Rl) (H : Hp) (s : Sto), Pw R0 H0 tr R H → StOk X R H s → ∃ vs, SqT X.K H a vs ∧ Reps X R vs ds)) := by
  have p0 : Pw R0 H0 tr R0 H0 := by cases tr <;> first | exact RLe.refl _ | exact Grow.refl _ _
  have r0 := r.on p0
  cases d <;> simp only [asSeq] at e <;> cases e
  · obtain ⟨a, vs, rfl, h, q⟩ := r0.tup S0
    refine ⟨a, rfl, .inr fun R H s p S => ?_⟩
    obtain ⟨b, ws, e1, h1, q1⟩ := (r.on p).tup S
    cases e1
    exact ⟨ws, h1, q1⟩
  · obtain ⟨a, vs, rfl, h, q⟩ := r0.lst S0
    refine ⟨a, rfl, .inl fun R H s p S => ?_⟩
    obtain ⟨b, ws, e1, h1, q1⟩ := (r.on p).lst S
    cases e1
    exact ⟨ws, .of h1, q1⟩
  · obtain ⟨a, vs, rfl, h, q⟩ := r0.ro S0
    refine ⟨a, rfl, .inl fun R H s p S => ?_⟩
    obtain ⟨b, ws, e1, h1, q1⟩ := (r.on p).ro S
    cases e1
    exact ⟨ws, h1, q1⟩
theorem pw0 {R0 : Rl} {H0 : Hp} : Pw R0 H0 tr R0 H0 := by cases tr <;> first | exact RLe.refl _ | exact Grow.refl _ _
theorem useXs {β : Type} {R : Rl} {H : Hp} {sto : Sto} {σ : L2.St} {env : Env} {fa : Env → M (List D)} {g : List D → M β} {k : β → Sto → Prop} {Kx : List V → Hp → Prop} (S : StOk X R H sto) (E : EnvOk X R H σ env)
    (h : Out (wE X W R H σ) (((fa env).bind g) sto) k)
    (hk : ∀ v H1 R1 d s1, Grow R H R1 H1 → StOk X R1 H1 s1 → EnvOk X R1 H1 σ env → (if tr then RepTs X R1 H1 v d else Reps X R1 v d) → Out (wE X W R H σ) (g d s1) k → Kx v H1) : tXs X W tr fa σ H Kx := by
  cases tr with
  | true => exact useTs S E h hk
  | false => exact useDs S E h hk
theorem ms_one {R : Rl} {H : Hp} {vs : List V} {d : D} (h : if tr then RepTs X R H vs [d] else Reps X R vs [d]) : ∃ v, vs = [v] ∧ RepM X R H tr v d := by
  cases tr with
  | true => exact RepTs.one h
  | false =>
    cases (show Reps X R vs [d] from h) with
    | cons a b => cases b; exact ⟨_, rfl, a⟩
theorem ms_two {R : Rl} {H : Hp} {vs : List V} {d e : D} (h : if tr then RepTs X R H vs [d, e] else Reps X R vs [d, e]) : ∃ v w, vs = [v, w] ∧ RepM X R H tr v d ∧ RepM X R H tr w e := by
  cases tr with
  | true => exact RepTs.two h
  | false =>
    cases (show Reps X R vs [d, e] from h) with
    | cons a b => cases b with | cons c d => cases d; exact ⟨_, _, rfl, a, c⟩
/-- for .. in e -/
theorem di_seq {l : Expr} {f : Env → M D} (hK : X.K = C.K) (hl : PE C l (tX X W tr f)) : PI C tg l (tI X W tr fun env => ((f env).bind fun x => M.pure [x]).bind fun ds => itSeq ds) := by
  refine PI.weak (pi_seq hl) fun σ H K ⟨R, env, sto, S, E, o⟩ => ?_
  have o : Out (wE X W R H σ) (((f env).bind fun x => itSeq [x]) sto) _ := Out.conv (bind_one _ _ _) o
  refine useX S E o fun v H1 R1 d s1 g1 S1 E1 r1 o1 => ?_
  obtain ⟨items, e2, q⟩ := Out.ofOpt (show Out _ (ofOpt (asWalk d) s1) _ from o1)
  by_cases hz : ∃ z, d = .str z
  · obtain ⟨z, rfl⟩ := hz
    cases e2
    have ev : v = .str z := by
      cases tr with
      | true => exact RepT.str r1
      | false => exact RepT.str (H := H1) (.inl r1)
    exact .inr ⟨z, ev, q _ H1 R1 g1 S1 jok_str⟩
  have e2 : asSeq d = some items := by
    cases d <;> first | exact e2 | exact absurd ⟨_, rfl⟩ hz
  obtain ⟨a, rfl, h⟩ := seq_at S1 (tr := tr) r1 e2
  refine .inl ⟨a, rfl, ?_⟩
  rw [← hK]
  rcases h with h | h
  · obtain ⟨vs, h1, _⟩ := h R1 H1 s1 pw0 S1
    exact .inl ⟨⟨vs, h1⟩, q _ H1 R1 g1 S1 (jok_list (d := d) h)⟩
  · obtain ⟨vs, h1, _⟩ := h R1 H1 s1 pw0 S1
    exact .inr ⟨⟨vs, h1⟩, q _ H1 R1 g1 S1 (jok_tup h)⟩
theorem range_get {n i : Nat} {f : Nat → D} {d : D} (e : ((List.range n).map f)[i]? = some d) : i < n ∧ d = f i := by
  rw [List.getElem?_map] at e
  by_cases h : i < n
  · rw [List.getElem?_range h] at e
    exact ⟨h, (Option.some.inj e).symm⟩
  · rw [List.getElem?_eq_none (by simpa using h)] at e; cases e
theorem jok_range {P : Rl → Hp → Prop} {lo : Int} {n : Nat} : JOk X P (Itr lo n) ((List.range n).map fun (i : Nat) => D.int (lo + i)) where
  go := fun R H s i d p S e => by
    obtain ⟨h, rfl⟩ := range_get e
    refine ⟨h, fun x H' y => ?_⟩
    obtain ⟨rfl, rfl⟩ := y
    exact ⟨R, Grow.refl _ _, S, .int _⟩
  stop := fun R H s i p S e => by simp only [List.length_map, List.length_range, List.length_reverse] at e; exact e
theorem di_range1 {a : Expr} {fs : Env → M (List D)} {p pos : Pos} (hg : Gl C "range") (hm : C.mg "range" = none) (ha : PA C [a] (tXs X W tr fs)) (hs : starEach [a] C.env = [(false, eval a C.env)]) :
    PI C tg (.Call (.Name "range" p) [a] [] pos) (tI X W tr fun env => (fs env).bind fun ds => itR1 ds) := by
  refine PI.weak (pi_range1 hg hm ha hs) fun σ H K ⟨R, env, sto, S, E, o⟩ => ?_
  refine useXs S E o fun vs H1 R1 ds s1 g1 S1 E1 r1 o1 => ?_
  unfold itR1 at o1
  split at o1 <;> first | exact o1.elim | skip
  case _ j =>
    obtain ⟨hb, o2⟩ := o1.needB
    have hb := of_decide_eq_true hb
    obtain ⟨v, rfl, rv⟩ := ms_one r1
    have ev := (RepM.on (tr := tr) pw0 rv).int
    subst ev
    refine ⟨j, rfl, hb.1, hb.2, o2.pure _ H1 R1 g1 S1 ?_⟩
    have := jok_range (X := X) (P := Pw R1 H1 tr) (lo := 0) (n := j.toNat)
    simpa using this
theorem di_range2 {a b : Expr} {fs : Env → M (List D)} {p pos : Pos} (hg : Gl C "range") (hm : C.mg "range" = none) (ha : PA C [a, b] (tXs X W tr fs)) (hs : starEach [a, b] C.env = [(false, eval a C.env), (false, eval b C.env)]) (hs2 : starEach [b] C.env = [(false, eval b C.env)]) :
    PI C tg (.Call (.Name "range" p) [a, b] [] pos) (tI X W tr fun env => (fs env).bind fun ds => itR2 ds) := by
  refine PI.weak (pi_range2 hg hm ha hs hs2) fun σ H K ⟨R, env, sto, S, E, o⟩ => ?_
  refine useXs S E o fun vs H1 R1 ds s1 g1 S1 E1 r1 o1 => ?_
  unfold itR2 at o1
  split at o1 <;> first | exact o1.elim | skip
  case _ i j =>
    obtain ⟨hb, o2⟩ := o1.needB
    have hb := of_decide_eq_true hb
    obtain ⟨v, w, rfl, rv, rw'⟩ := ms_two r1
    have ev := (RepM.on (tr := tr) pw0 rv).int
    have ew := (RepM.on (tr := tr) pw0 rw').int
    subst ev ew
    exact ⟨i, j, rfl, hb, o2.pure _ H1 R1 g1 S1 jok_range⟩
/-- a fresh tuple is yielded -/
theorem jok_rangeC {P : Rl → Hp → Prop} {lo c : Int} {n : Nat} : JOk X P (Itc lo c n) ((List.range n).map fun (i : Nat) => D.int (lo + i * c)) where
  go := fun R H s i d p S e => by
    obtain ⟨h, rfl⟩ := range_get e
    refine ⟨h, fun x H' y => ?_⟩
    obtain ⟨rfl, rfl⟩ := y
    exact ⟨R, Grow.refl _ _, S, .int _⟩
  stop := fun R H s i p S h => by
    rw [List.length_map, List.length_range] at h
    exact h
theorem ms_three {R : Rl} {H : Hp} {vs : List V} {d e f : D} (h : if tr then RepTs X R H vs [d, e, f] else Reps X R vs [d, e, f]) : ∃ v w u, vs = [v, w, u] ∧ RepM X R H tr v d ∧ RepM X R H tr w e ∧ RepM X R H tr u f := by
  cases tr with
  | true => cases h with | cons a b => cases b with | cons c d => cases d with | cons e f => cases f; exact ⟨_, _, _, rfl, a, c, e⟩
  | false => cases h with | cons a b => cases b with | cons c d => cases d with | cons e f => cases f; exact ⟨_, _, _, rfl, a, c, e⟩
theorem RepM.int {R : Rl} {H : Hp} {v : V} {i : Int} (r : RepM X R H tr v (.int i)) : v = .int i := by
  cases tr with
  | true => exact RepT.int r
  | false => exact RepT.int (H := H) (.inl r)
theorem di_range3 {a b c : Expr} {fs : Env → M (List D)} {p pos : Pos} (hg : Gl C "range") (hm : C.mg "range" = none) (ha : PA C [a, b, c] (tXs X W tr fs)) (hs : starEach [a, b, c] C.env = (false, eval a C.env) :: starEach [b, c] C.env) (hpl : (backTo pos (starEach [b, c] C.env)).any (·.1) = false) :
    PI C tg (.Call (.Name "range" p) [a, b, c] [] pos) (tI X W tr fun env => (fs env).bind fun ds => itR3 ds) := by
  refine PI.weak (pi_range3 hg hm ha hs hpl) fun σ H K ⟨R, env, sto, S, E, o⟩ => ?_
  refine useXs S E o fun vs H1 R1 ds s1 g1 S1 E1 r1 o1 => ?_
  unfold itR3 at o1
  split at o1 <;> first | exact o1.elim | skip
  rename_i i j c'
  obtain ⟨hb, o2⟩ := Out.needB o1
  obtain ⟨e1, e2, e3, e4, e5⟩ := of_decide_eq_true hb
  obtain ⟨v, w, u, rfl, r2, r3, r4⟩ := ms_three r1
  rw [r2.int, r3.int, r4.int]
  subst e1
  exact ⟨i, j, -1, (i - j).toNat, rfl, .neg e2 e3 e4 e5, Out.pure o2 _ H1 R1 g1 S1 jok_rangeC⟩
theorem pair_new {R : Rl} {H : Hp} {s : Sto} {T : Addr} {x y : V} {d e : D} (S : StOk X R H s) (hT : H T = none) (rx : Rep X R x d) (ry : Rep X R y e) :
    ∃ R', Grow R H R' (upd H T (.tup [x, y])) ∧ StOk X R' (upd H T (.tup [x, y])) s ∧ Rep X R' (.ref T) (.tup [d, e]) := by
  have le := put_le (o := HO.tup [x, y]) (fz_none S hT)
  exact ⟨R.put T (.tup [x, y]), put_grow S hT, put_st S hT, .tup upd_same (.cons (rx.mono le) (.cons (ry.mono le) .nil))⟩
theorem zipIdx_get {ds : List D} {i : Nat} {d : D} (e : (ds.zipIdx.map fun p => D.tup [.int p.2, p.1])[i]? = some d) : ∃ x, ds[i]? = some x ∧ d = .tup [.int (i : Nat), x] := by
  rw [List.getElem?_map, List.getElem?_zipIdx] at e
  cases q : ds[i]? with
  | none => rw [q] at e; cases e
  | some x =>
    rw [q] at e
    refine ⟨x, rfl, ?_⟩
    have := (Option.some.inj e).symm
    simpa using this
theorem jok_enum {R0 : Rl} {H0 : Hp} {a : Addr} {ds : List D} (hs : ∀ (R : Rl) (H : Hp) (s : Sto), Pw R0 H0 tr R H → StOk X R H s → ∃ vs, SqL X.K H a vs ∧ Reps X R vs ds) :
    JOk X (Pw R0 H0 tr) (Ite X.K a) (ds.zipIdx.map fun p => .tup [.int p.2, p.1]) where
  go := fun R H s i d p S e => by
    obtain ⟨vs, h, r⟩ := hs R H s p S
    obtain ⟨x, e1, rfl⟩ := zipIdx_get e
    obtain ⟨v, e2, r2⟩ := r.get e1
    refine ⟨⟨vs, v, h, e2⟩, fun y H' q => ?_⟩
    obtain ⟨T, x', rfl, hT, rfl, q⟩ := q
    have := (q vs h).symm.trans e2
    cases this
    exact pair_new S hT (.int _) r2
  stop := fun R H s i p S e => by
    obtain ⟨vs, h, r⟩ := hs R H s p S
    exact ⟨vs, h, by rw [r.length]; simpa using e⟩
theorem zip_get {xs ys : List D} {i : Nat} {d : D} (e : ((xs.zip ys).map fun p => D.tup [p.1, p.2])[i]? = some d) : ∃ x y, xs[i]? = some x ∧ ys[i]? = some y ∧ d = .tup [x, y] := by
  rw [List.getElem?_map] at e
  cases q : (xs.zip ys)[i]? with
  | none => rw [q] at e; cases e
  | some p =>
    rw [q] at e
    obtain ⟨x, y⟩ := p
    obtain ⟨h1, h2⟩ := List.getElem?_zip_eq_some.mp q
    exact ⟨x, y, h1, h2, (Option.some.inj e).symm⟩
theorem jok_zip {R0 : Rl} {H0 : Hp} {a b : Addr} {xs ys : List D} (hs : ∀ (R : Rl) (H : Hp) (s : Sto), Pw R0 H0 tr R H → StOk X R H s → ∃ vs, SqL X.K H a vs ∧ Reps X R vs xs)
    (ht : ∀ (R : Rl) (H : Hp) (s : Sto), Pw R0 H0 tr R H → StOk X R H s → ∃ vs, SqL X.K H b vs ∧ Reps X R vs ys) :
    JOk X (Pw R0 H0 tr) (Itz X.K a b) ((xs.zip ys).map fun p => .tup [p.1, p.2]) where
  go := fun R H s i d p S e => by
    obtain ⟨vs, h, r⟩ := hs R H s p S
    obtain ⟨ws, h', r'⟩ := ht R H s p S
    obtain ⟨x, y, e1, e2, rfl⟩ := zip_get e
    obtain ⟨v, e3, r3⟩ := r.get e1
    obtain ⟨w, e4, r4⟩ := r'.get e2
    refine ⟨⟨vs, ws, v, w, h, h', e3, e4⟩, fun z H' q => ?_⟩
    obtain ⟨T, x', y', rfl, hT, rfl, q1, q2⟩ := q
    have z1 := (q1 vs h).symm.trans e3
    have z2 := (q2 ws h').symm.trans e4
    cases z1; cases z2
    exact pair_new S hT r3 r4
  stop := fun R H s i p S e => by
    obtain ⟨vs, h, r⟩ := hs R H s p S
    obtain ⟨ws, h', r'⟩ := ht R H s p S
    refine ⟨vs, ws, h, h', ?_⟩
    rw [r.length, r'.length]
    simp only [List.length_map, List.length_zip] at e
    omega
theorem jok_zipT {R0 : Rl} {H0 : Hp} {a b : Addr} {xs ys : List D} (hs : ∀ (R : Rl) (H : Hp) (s : Sto), Pw R0 H0 tr R H → StOk X R H s → ∃ vs, SqT X.K H a vs ∧ Reps X R vs xs)
    (ht : ∀ (R : Rl) (H : Hp) (s : Sto), Pw R0 H0 tr R H → StOk X R H s → ∃ vs, SqT X.K H b vs ∧ Reps X R vs ys) :
    JOk X (Pw R0 H0 tr) (RZ.ItzT X.K a b) ((xs.zip ys).map fun p => .tup [p.1, p.2]) where
  go := fun R H s i d p S e => by
    obtain ⟨vs, h, r⟩ := hs R H s p S
    obtain ⟨ws, h', r'⟩ := ht R H s p S
    obtain ⟨x, y, e1, e2, rfl⟩ := zip_get e
    obtain ⟨v, e3, r3⟩ := r.get e1
    obtain ⟨w, e4, r4⟩ := r'.get e2
    refine ⟨⟨vs, ws, v, w, h, h', e3, e4⟩, fun z H' q => ?_⟩
    obtain ⟨T, x', y', rfl, hT, rfl, q1, q2⟩ := q
    have z1 := (q1 vs h).symm.trans e3
    have z2 := (q2 ws h').symm.trans e4
    cases z1; cases z2
    exact pair_new S hT r3 r4
  stop := fun R H s i p S e => by
    obtain ⟨vs, h, r⟩ := hs R H s p S
    obtain ⟨ws, h', r'⟩ := ht R H s p S
    refine ⟨vs, ws, h, h', ?_⟩
    rw [r.length, r'.length]
    simp only [List.length_map, List.length_zip] at e
    omega
theorem jok_zipTL {R0 : Rl} {H0 : Hp} {a b : Addr} {xs ys : List D} (hs : ∀ (R : Rl) (H : Hp) (s : Sto), Pw R0 H0 tr R H → StOk X R H s → ∃ vs, SqT X.K H a vs ∧ Reps X R vs xs)
    (ht : ∀ (R : Rl) (H : Hp) (s : Sto), Pw R0 H0 tr R H → StOk X R H s → ∃ vs, SqL X.K H b vs ∧ Reps X R vs ys) :
    JOk X (Pw R0 H0 tr) (ItTL X.K a b) ((xs.zip ys).map fun p => .tup [p.1, p.2]) where
  go := fun R H s i d p S e => by
    obtain ⟨vs, h, r⟩ := hs R H s p S
    obtain ⟨ws, h', r'⟩ := ht R H s p S
    obtain ⟨x, y, e1, e2, rfl⟩ := zip_get e
    obtain ⟨v, e3, r3⟩ := r.get e1
    obtain ⟨w, e4, r4⟩ := r'.get e2
    refine ⟨⟨vs, ws, v, w, h, h', e3, e4⟩, fun z H' q => ?_⟩
    obtain ⟨T, x', y', rfl, hT, rfl, q1, q2⟩ := q
    have z1 := (q1 vs h).symm.trans e3
    have z2 := (q2 ws h').symm.trans e4
    cases z1; cases z2
    exact pair_new S hT r3 r4
  stop := fun R H s i p S e => by
    obtain ⟨vs, h, r⟩ := hs R H s p S
    obtain ⟨ws, h', r'⟩ := ht R H s p S
    refine ⟨vs, ws, h, h', ?_⟩
    rw [r.length, r'.length]
    simp only [List.length_map, List.length_zip] at e
    omega
theorem rev_get {ds : List D} {i : Nat} {d : D} (e : ds.reverse[i]? = some d) : i < ds.length ∧ ds[ds.length - 1 - i]? = some d := by
  have h : i < ds.length := by simpa using (List.getElem?_eq_some_iff.mp e).1
  rw [List.getElem?_reverse h] at e
  exact ⟨h, e⟩
theorem jok_rev {R0 : Rl} {H0 : Hp} {a : Addr} {ds : List D} (hs : ∀ (R : Rl) (H : Hp) (s : Sto), Pw R0 H0 tr R H → StOk X R H s → ∃ vs, SqL X.K H a vs ∧ Reps X R vs ds) :
    JOk X (Pw R0 H0 tr) (Itv X.K a ds.length) ds.reverse where
  go := fun R H s i d p S e => by
    obtain ⟨vs, h, r⟩ := hs R H s p S
    obtain ⟨hl, e1⟩ := rev_get e
    obtain ⟨v, e2, r2⟩ := r.get e1
    refine ⟨⟨hl, vs, v, h, e2⟩, fun y H' q => ?_⟩
    obtain ⟨rfl, q⟩ := q
    have := (q vs h).symm.trans e2
    cases this
    exact ⟨R, Grow.refl _ _, S, r2⟩
  stop := fun R H s i p S e => by simp only [List.length_map, List.length_range, List.length_reverse] at e; exact e
theorem jok_revT {R0 : Rl} {H0 : Hp} {a : Addr} {ds : List D} (hs : ∀ (R : Rl) (H : Hp) (s : Sto), Pw R0 H0 tr R H → StOk X R H s → ∃ vs, SqT X.K H a vs ∧ Reps X R vs ds) :
    JOk X (Pw R0 H0 tr) (RT.ItvT X.K a ds.length) ds.reverse where
  go := fun R H s i d p S e => by
    obtain ⟨vs, h, r⟩ := hs R H s p S
    obtain ⟨hl, e1⟩ := rev_get e
    obtain ⟨v, e2, r2⟩ := r.get e1
    refine ⟨⟨hl, vs, v, h, e2⟩, fun y H' q => ?_⟩
    obtain ⟨rfl, q⟩ := q
    have := (q vs h).symm.trans e2
    cases this
    exact ⟨R, Grow.refl _ _, S, r2⟩
  stop := fun R H s i p S e => by simp only [List.length_map, List.length_range, List.length_reverse] at e; exact e
theorem di_enum {e : Expr} {fs : Env → M (List D)} {p pos tpos : Pos} {elts : List Expr} {kk : Nat} (hK : X.K = C.K) (hg : Gl C "enumerate") (hm : C.mg "enumerate" = none) (ha : PA C [e] (tXs X W tr fs)) (hs : starEach [e] C.env = [(false, eval e C.env)]) :
    PI C (.Tuple elts kk tpos) (.Call (.Name "enumerate" p) [e] [] pos) (tI X W tr fun env => (fs env).bind fun ds => itEnum ds) := by
  refine PI.weak (pi_enum hg hm ha hs) fun σ H K ⟨R, env, sto, S, E, o⟩ => ?_
  refine useXs S E o fun vs H1 R1 ds s1 g1 S1 E1 r1 o1 => ?_
  unfold itEnum at o1
  split at o1 <;> first | exact o1.elim | skip
  case _ b xs =>
    obtain ⟨v, rfl, rv⟩ := ms_one r1
    obtain ⟨a, rfl, h⟩ := seq_at (tr := tr) S1 rv (ds := xs) rfl
    have hl : ∀ (R : Rl) (H : Hp) (s : Sto), Pw R1 H1 tr R H → StOk X R H s → ∃ vs, SqL X.K H a vs ∧ Reps X R vs xs := fun R H s p S => by
      obtain ⟨b, ws, e1, h1, q1⟩ := (RepM.on p rv).lst S
      cases e1
      exact ⟨ws, .of h1, q1⟩
    obtain ⟨vs, h1, _⟩ := hl R1 H1 s1 pw0 S1
    refine ⟨a, vs, rfl, hK ▸ h1, ?_⟩
    rw [← hK]
    exact o1.pure _ H1 R1 g1 S1 (jok_enum hl)
theorem di_zip {e e2 : Expr} {fs : Env → M (List D)} {p pos tpos : Pos} {elts : List Expr} {kk : Nat} (hK : X.K = C.K) (hg : Gl C "zip") (hm : C.mg "zip" = none) (ha : PA C [e, e2] (tXs X W tr fs))
    (hs : starEach [e, e2] C.env = (false, eval e C.env) :: starEach [e2] C.env) (hpl : (backTo pos (starEach [e2] C.env)).any (·.1) = false) :
    PI C (.Tuple elts kk tpos) (.Call (.Name "zip" p) [e, e2] [] pos) (tI X W tr fun env => (fs env).bind fun ds => itZip ds) := by
  refine PI.weak (pi_zipM hg hm ha hs hpl) fun σ H K ⟨R, env, sto, S, E, o⟩ => ?_
  refine useXs S E o fun vs H1 R1 ds s1 g1 S1 E1 r1 o1 => ?_
  have onL : ∀ {b : Bool} {v : V} {xs : List D}, RepM X R1 H1 tr v (.lst b xs) → ∃ a, v = .ref a ∧ ∀ (R : Rl) (H : Hp) (s : Sto), Pw R1 H1 tr R H → StOk X R H s → ∃ vs, SqL X.K H a vs ∧ Reps X R vs xs := fun {b v xs} rv => by
    obtain ⟨a, rfl, _⟩ := seq_at (tr := tr) S1 rv (ds := xs) rfl
    refine ⟨a, rfl, fun R H s p S => ?_⟩
    obtain ⟨b, ws, e1, h1, q1⟩ := (RepM.on p rv).lst S
    cases e1
    exact ⟨ws, .of h1, q1⟩
  have onT : ∀ {v : V} {xs : List D}, RepM X R1 H1 tr v (.tup xs) → ∃ a, v = .ref a ∧ ∀ (R : Rl) (H : Hp) (s : Sto), Pw R1 H1 tr R H → StOk X R H s → ∃ vs, SqT X.K H a vs ∧ Reps X R vs xs := fun {v xs} rv => by
    obtain ⟨a, rfl, _⟩ := seq_at (tr := tr) S1 rv (ds := xs) rfl
    refine ⟨a, rfl, fun R H s p S => ?_⟩
    obtain ⟨b, ws, e1, h1, q1⟩ := (RepM.on p rv).tup S
    cases e1
    exact ⟨ws, h1, q1⟩
  unfold itZip at o1
  split at o1 <;> first | exact o1.elim | skip
  case _ b1 xs b2 ys =>
    obtain ⟨v, w, rfl, rv, rw'⟩ := ms_two r1
    obtain ⟨a, rfl, hl⟩ := onL rv
    obtain ⟨b, rfl, hl2⟩ := onL rw'
    obtain ⟨vs, h1, _⟩ := hl R1 H1 s1 pw0 S1
    obtain ⟨ws, h2, _⟩ := hl2 R1 H1 s1 pw0 S1
    refine ⟨a, b, _, rfl, .ll (hK ▸ h1) (hK ▸ h2), ?_⟩
    rw [← hK]
    exact o1.pure _ H1 R1 g1 S1 (jok_zip hl hl2)
  case _ xs ys =>
    obtain ⟨v, w, rfl, rv, rw'⟩ := ms_two r1
    obtain ⟨a, rfl, hl⟩ := onT rv
    obtain ⟨b, rfl, hl2⟩ := onT rw'
    obtain ⟨vs, h1, _⟩ := hl R1 H1 s1 pw0 S1
    obtain ⟨ws, h2, _⟩ := hl2 R1 H1 s1 pw0 S1
    refine ⟨a, b, _, rfl, .tt (hK ▸ h1) (hK ▸ h2), ?_⟩
    rw [← hK]
    exact o1.pure _ H1 R1 g1 S1 (jok_zipT hl hl2)
  case _ xs b2 ys =>
    obtain ⟨v, w, rfl, rv, rw'⟩ := ms_two r1
    obtain ⟨a, rfl, hl⟩ := onT rv
    obtain ⟨b, rfl, hl2⟩ := onL rw'
    obtain ⟨vs, h1, _⟩ := hl R1 H1 s1 pw0 S1
    obtain ⟨ws, h2, _⟩ := hl2 R1 H1 s1 pw0 S1
    refine ⟨a, b, _, rfl, .tl (hK ▸ h1) (hK ▸ h2), ?_⟩
    rw [← hK]
    exact o1.pure _ H1 R1 g1 S1 (jok_zipTL hl hl2)
theorem di_rev {e : Expr} {f : Env → M D} {p pos : Pos} (hK : X.K = C.K) (hg : Gl C "reversed") (hm : C.mg "reversed" = none) (he : PE C e (tX X W tr f)) (hs : starEach [e] C.env = (false, eval e C.env) :: starEach [] C.env) :
    PI C tg (.Call (.Name "reversed" p) [e] [] pos) (tI X W tr fun env => ((f env).bind fun x => M.pure [x]).bind fun ds => itRev ds) := by
  refine PI.weak (RT.pi_revA hg hm he hs) fun σ H K ⟨R, env, sto, S, E, o⟩ => ?_
  have o : Out (wE X W R H σ) (((f env).bind fun x => itRev [x]) sto) _ := Out.conv (bind_one _ _ _) o
  refine useX S E o fun v H1 R1 d s1 g1 S1 E1 r1 o1 => ?_
  obtain ⟨its, e1, q⟩ := Out.ofOpt (show Out _ (ofOpt ((asSeq d).map List.reverse) s1) _ from o1)
  obtain ⟨items, e2, rfl⟩ := Option.map_eq_some_iff.mp e1
  obtain ⟨a, rfl, h⟩ := seq_at S1 (tr := tr) r1 e2
  rcases h with h | h
  · obtain ⟨vs, h1, rl⟩ := h R1 H1 s1 pw0 S1
    refine ⟨a, vs, rfl, .inl ⟨hK ▸ h1, ?_⟩⟩
    rw [← hK, rl.length]
    exact q _ H1 R1 g1 S1 (jok_rev h)
  · obtain ⟨vs, h1, rl⟩ := h R1 H1 s1 pw0 S1
    refine ⟨a, vs, rfl, .inr ⟨hK ▸ h1, ?_⟩⟩
    rw [← hK, rl.length]
    exact q _ H1 R1 g1 S1 (jok_revT h)
end
end Bc

set_option linter.all false
set_option autoImplicit false
set_option maxRecDepth 100000
set_option maxHeartbeats 1000000
namespace Bc
open PySem PySem.Spec L2

/-! ### targets -/
/-- a target's reading: it stores at the slots ns at most -/
def tG (X : Sx) (ns : List Nat) (f : D → Env → M Env) : TG := fun v σ H Q => ∃ R env sto d, StOk X R H sto ∧ EnvOk X R H σ env ∧ Rep X R v d ∧
  Out noW (f d env sto) fun env' s' => ∀ σ' H' R', Grow R H R' H' → StOk X R' H' s' → EnvOk X R' H' σ' env' → (∀ i, i ∉ ns → σ'[i]? = σ[i]?) → (∀ i, i ∉ ns → env'[i]? = env[i]?) → Q σ' H'
def tGs (X : Sx) (ns : List Nat) (f : List D → Env → M Env) : TGs := fun v σ H Q => ∃ R env sto d, StOk X R H sto ∧ EnvOk X R H σ env ∧ Reps X R v d ∧
  Out noW (f d env sto) fun env' s' => ∀ σ' H' R', Grow R H R' H' → StOk X R' H' s' → EnvOk X R' H' σ' env' → (∀ i, i ∉ ns → σ'[i]? = σ[i]?) → (∀ i, i ∉ ns → env'[i]? = env[i]?) → Q σ' H'
section
variable {X : Sx} {W : WD} {C : Cx} {pos : Pos}
theorem PGs.weak {e : List Expr} {t t' : TGs} (h : PGs C e t) (w : ∀ v σ H Q, t' v σ H Q → t v σ H Q) : PGs C e t' := ⟨fun pins s σ H v u Q I r q => h.run pins s σ H v u Q I r (w v σ H Q q)⟩
theorem EnvOk.setVal {R : Rl} {H : Hp} {σ : L2.St} {env : Env} {i : Nat} {v : V} {d : D} (E : EnvOk X R H σ env) (hi : i < env.length) (r : Rep X R v d) : EnvOk X R H (σ.set i (some v)) (env.set i (.val d)) := by
  refine ⟨by rw [List.length_set, List.length_set]; exact E.len, fun j s e => ?_, fun j k sj sk a e1 e2 o1 o2 q1 q2 => ?_⟩
  · by_cases h : i = j
    · subst h
      rw [List.getElem?_set_self hi] at e
      cases e
      rw [List.getElem?_set_self (by rw [E.len]; exact hi)]
      exact ⟨v, rfl, r⟩
    · rw [List.getElem?_set_ne h] at e ⊢
      exact E.at_ j s e
  · have hj : i ≠ j := fun h => by
      subst h
      rw [List.getElem?_set_self hi] at e1
      cases e1; cases o1
    have hk : i ≠ k := fun h => by
      subst h
      rw [List.getElem?_set_self hi] at e2
      cases e2; cases o2
    rw [List.getElem?_set_ne hj] at e1 q1
    rw [List.getElem?_set_ne hk] at e2 q2
    exact E.sep j k sj sk a e1 e2 o1 o2 q1 q2
theorem dg_nm {i : Nat} {x : Str} (cl : Cl) (hN : C.N.Nodup) (hi : C.N[i]? = some x) (hx : Loc C.env.scope x) (hf : C.fn x = true ∨ C.env.scope.names.lookup x = some .local) : PG C (.Name x pos) (tG X [i] (asgT cl (.nm i))) := by
  refine L2.PG.weak (pg_name hN hi hx hf) fun v σ H Q ⟨R, env, sto, d, S, E, r, o⟩ => ?_
  unfold asgT at o
  split at o
  · rename_i h
    refine o.pure _ H R (Grow.refl _ _) S (E.setVal h r) (fun j hj => ?_) (fun j hj => ?_)
    · rw [List.getElem?_set_ne (fun e => hj (by simp [e]))]
    · rw [List.getElem?_set_ne (fun e => hj (by simp [e]))]
  · exact o.elim
theorem dg_nil (cl : Cl) : PGs C [] (tGs X [] (asgTs cl .nil)) := by
  refine PGs.weak pgs_nil fun v σ H Q ⟨R, env, sto, d, S, E, r, o⟩ => ?_
  unfold asgTs at o
  split at o
  · cases r
    exact ⟨rfl, o.pure _ H R (Grow.refl _ _) S E (fun _ _ => rfl) fun _ _ => rfl⟩
  · exact o.elim
theorem dg_cons {e : Expr} {es : List Expr} {cl : Cl} {t : T} {ts : Ts} {ns ms : List Nat} (h1 : PG C e (tG X ns (asgT cl t))) (h2 : PGs C es (tGs X ms (asgTs cl ts)))
    (hs : (assignEach (e :: es) C.env).map (·.2) = assign e C.env :: (assignEach es C.env).map (·.2)) : PGs C (e :: es) (tGs X (ns ++ ms) (asgTs cl (.cons t ts))) := by
  refine PGs.weak (pgs_cons h1 h2 hs) fun vs σ H Q ⟨R, env, sto, ds, S, E, r, o⟩ => ?_
  unfold asgTs at o
  split at o
  · rename_i d ds
    cases r with
    | cons a b =>
      refine ⟨_, _, rfl, R, env, sto, d, S, E, a, (Out.bind o).imp (fun env1 s1 o1 σ1 H1 R1 g1 S1 E1 k1 k2 => ?_) fun _ _ _ w => w⟩
      refine ⟨R1, env1, s1, ds, S1, E1, Reps.mono g1.le _ b, o1.imp (fun env2 s2 q σ2 H2 R2 g2 S2 E2 k3 k4 => ?_) fun c fs s w => w⟩
      refine q σ2 H2 R2 (g1.trans g2) S2 E2 (fun i hi => ?_) fun i hi => ?_
      · rw [k3 i fun h => hi (List.mem_append_right _ h), k1 i fun h => hi (List.mem_append_left _ h)]
      · rw [k4 i fun h => hi (List.mem_append_right _ h), k2 i fun h => hi (List.mem_append_left _ h)]
  · exact o.elim
theorem asgTs_len {cl : Cl} {W' : Nat → List (Nat × D) → Sto → Prop} : ∀ {ts : Ts} {ds : List D} {env : Env} {s : Sto} {k : Env → Sto → Prop}, Out W' (asgTs cl ts ds env s) k → (∀ c fs s, ¬ W' c fs s) → ds.length = tsLen ts
  | .nil, ds, env, s, k, o, _ => by
    unfold asgTs at o
    split at o
    · rfl
    · exact o.elim
  | .cons t ts, ds, env, s, k, o, n => by
    unfold asgTs at o
    split at o
    · rename_i d ds
      have o := Out.bind o
      cases e : asgT cl t d env s with
      | ok p =>
        rw [e] at o
        exact congrArg Nat.succ (asgTs_len (show Out W' (asgTs cl ts ds p.1 p.2) k from o) n)
      | exc c fs s => rw [e] at o; exact absurd o (n _ _ _)
      | stuck => rw [e] at o; exact o.elim
    · exact o.elim
theorem pg_or {e : Expr} {g1 g2 : TG} (h1 : PG C e g1) (h2 : PG C e g2) : PG C e (fun v σ H Q => g1 v σ H Q ∨ g2 v σ H Q) :=
  ⟨fun pins s σ H v u Q I r hw => hw.elim (h1.run pins s σ H v u Q I r) (h2.run pins s σ H v u Q I r)⟩
theorem dg_tup {es : List Expr} {k : Nat} {cl : Cl} {ts : Ts} {ns : List Nat} (hK : X.K = C.K) (hc : C.calm = true) (h : PGs C es (tGs X ns (asgTs cl ts)))
    (hn : (assignEach es C.env).length = tsLen ts) (hst : (assignEach es C.env).findIdx? (·.1) = none) : PG C (.Tuple es k pos) (tG X ns (asgT cl (.tp ts))) := by
  refine L2.PG.weak (pg_or (pg_tup hc h hn hst) (pg_lst hc h hn hst)) fun v σ H Q ⟨R, env, sto, d, S, E, r, o⟩ => ?_
  unfold asgT at o
  split at o
  · rename_i ds
    cases r with
    | tup e rs =>
      refine .inl ⟨_, _, rfl, .inl (.inl (S.fz _ _ e)), ?_, R, env, sto, ds, S, E, rs, o⟩
      rw [rs.length]
      exact asgTs_len o fun _ _ _ z => z
  · rename_i ds
    cases r with
    | lst e rs =>
      refine .inr ⟨_, _, rfl, .inl (.inl (S.fz _ _ e)), ?_, R, env, sto, ds, S, E, rs, o⟩
      rw [rs.length]
      exact asgTs_len o fun _ _ _ z => z
  · exact o.elim
/-- a list of the store is written -/
theorem st_set {R : Rl} {H : Hp} {sto : Sto} {n : Nat} {p : Addr} {vs ws : List V} {ds es : List D} (S : StOk X R H sto) (hp : R.mu[n]? = some p) (hd : sto[n]? = some ds) (e : H p = some (.lst vs))
    (nb : nobs es = true) (r : Reps X { R with Bz := fun _ => none } ws es) : StOk X R (upd H p (.lst ws)) (sto.set n es) ∧ Grow R H R (upd H p (.lst ws)) := by
  have hm : p ∈ R.mu := List.mem_of_getElem? hp
  obtain ⟨f, b⟩ := S.notmu hm
  refine ⟨⟨fun a o h => ?_, fun a o h => ?_, by rw [List.length_set]; exact S.len, S.nd, fun m a ds' h1 h2 => ?_⟩, ⟨RLe.refl _, rfl, fun a o h hn => ?_, fun a h => .inl h, fun a h _ => ?_⟩⟩
  · rw [upd_ne (show a ≠ p from fun z => by rw [z, f] at h; cases h)]; exact S.fz a o h
  · rw [upd_ne (show a ≠ p from fun z => by rw [z, b] at h; cases h)]; exact S.bz a o h
  · by_cases hmn : n = m
    · subst hmn
      rw [hp] at h1; cases h1
      have hl : n < sto.length := (List.getElem?_eq_some_iff.mp hd).1
      rw [List.getElem?_set_self hl] at h2
      cases h2
      exact ⟨f, b, nb, ws, upd_same, r⟩
    · rw [List.getElem?_set_ne hmn] at h2
      obtain ⟨f', b', nb', vs', e', r'⟩ := S.at_ m a ds' h1 h2
      refine ⟨f', b', nb', vs', ?_, r'⟩
      rw [upd_ne (fun z => hmn ?_)]
      · exact e'
      · subst z
        have i1 := (List.getElem?_eq_some_iff.mp hp)
        have i2 := (List.getElem?_eq_some_iff.mp h1)
        exact (List.getElem_inj S.nd).mp (i1.2.trans i2.2.symm)
  · exact ⟨by rw [upd_ne (fun z : a = p => hn (by rw [z]; exact hm))]; exact h, rfl⟩
  · by_cases z : a = p
    · rw [z, upd_same]; intro q; cases q
    · rw [upd_ne z]; assumption
theorem nobs_set {d : D} (nb : nob d = true) : ∀ {xs : List D}, nobs xs = true → ∀ j, nobs (xs.set j d) = true
  | [], _, _ => rfl
  | z :: zs, h, 0 => by
    have z2 : Bc.nob z = true ∧ nobs zs = true := by simpa [nobs] using h
    simp [nobs, nb, z2.2]
  | z :: zs, h, j + 1 => by
    have z2 : Bc.nob z = true ∧ nobs zs = true := by simpa [nobs] using h
    simp [nobs, z2.1, nobs_set nb z2.2 j]
theorem dg_sub {a b : Expr} {cl : Cl} {ea eb : E} (hK : X.K = C.K) (ha : PE C a (tT X W (evE cl ea))) (hb : PE C b (tT X W (evE cl eb)))
    (he : ∀ v, assign (.Subscript a b pos) C.env v = (do
      let ov ← holding [v] (eval a C.env)
      let iv ← holding [v, ov] (eval b C.env)
      standAt pos
      holding [v, ov, iv] (setItem ov iv v)
      release [v, ov, iv] [])) : PG C (.Subscript a b pos) (tG X [] (asgT cl (.sub ea eb))) := by
  refine L2.PG.weak (pg_sub ha hb set_list he) fun v σ H Q ⟨R, env, sto, d, S, E, r, o⟩ => ?_
  unfold asgT at o
  refine ⟨R, env, sto, S, E, (Out.noX (W' := wE X W R H σ) (Out.bind o)).imp (fun x s1 o1 vx H1 R1 g1 S1 r1 => ?_) fun _ _ _ w => w⟩
  refine ⟨R1, env, s1, S1, E.grow g1, (Out.noX (W' := wE X W R1 H1 σ) (Out.bind o1)).imp (fun y s2 o2 vy H2 R2 g2 S2 r2 => ?_) fun _ _ _ w => w⟩
  have o2 := Out.bind o2
  cases x with
  | loc n =>
    cases y with
    | int i =>
      obtain ⟨p, rfl, hp⟩ := (r1.grow g2).loc
      have ey := r2.int
      subst ey
      unfold setSub at o2
      dsimp only at o2
      cases hxs : s2[n]? with
      | none => rw [hxs] at o2; exact o2.elim
      | some xs =>
        rw [hxs] at o2
        dsimp only at o2
        cases hj : ixN xs.length i with
        | none => rw [hj] at o2; exact o2.elim
        | some j =>
          rw [hj] at o2
          dsimp only at o2
          cases nb : nob d with
          | false => rw [nb] at o2; exact o2.elim
          | true =>
            rw [nb, if_pos rfl] at o2
            have hp' : R2.mu[n]? = some p := hp
            obtain ⟨f, b, nb', vs, e, rs⟩ := S2.at_ n p xs hp' hxs
            have rd : Rep X { R2 with Bz := fun _ => none } v d := Rep.nob _ d nb (r.mono (g1.trans g2).le)
            have nbs : nobs (xs.set j d) = true := nobs_set nb nb' j
            obtain ⟨S3, g3⟩ := st_set S2 hp' hxs e nbs (rs.set rd j)
            refine ⟨p, vs, i, j, rfl, rfl, e, by rw [rs.length]; exact hj, ?_⟩
            have q : ∀ (σ' : L2.St) (H' : Hp) (R' : Rl), Grow R H R' H' → StOk X R' H' (s2.set n (xs.set j d)) → EnvOk X R' H' σ' env → (∀ i : Nat, i ∉ ([] : List Nat) → σ'[i]? = σ[i]?) → (∀ i : Nat, i ∉ ([] : List Nat) → env[i]? = env[i]?) → Q σ' H' := o2
            exact q σ _ R2 ((g1.trans g2).trans g3) S3 (E.grow ((g1.trans g2).trans g3)) (fun _ _ => rfl) fun _ _ => rfl
    | _ => exact o2.elim
  | _ => exact (show False by cases y <;> exact o2).elim
end
end Bc

set_option linter.all false
set_option autoImplicit false
set_option maxRecDepth 100000
set_option maxHeartbeats 1000000
namespace Bc
open PySem PySem.Spec L2

abbrev W0 : WD := fun _ _ _ _ _ _ => False
section
variable {X : Sx} {W : WD} {C : Cx} {pos : Pos}
theorem wipe_len (env : Env) : ∀ vs : List Nat, (Bc.wipe env vs).length = env.length
  | [] => rfl
  | v :: vs => by unfold Bc.wipe; rw [List.length_set, wipe_len env vs]
theorem wipeE_get {env : Env} {i : Nat} {s : Slot} : ∀ {vs : List Nat}, (Bc.wipe env vs)[i]? = some s → s = .un ∨ (env[i]? = some s ∧ i ∉ vs)
  | [], h => .inr ⟨h, by simp⟩
  | v :: vs, h => by
    unfold Bc.wipe at h
    by_cases hi : v = i
    · subst hi
      by_cases hv : v < (Bc.wipe env vs).length
      · rw [List.getElem?_set_self hv] at h; exact .inl (Option.some.inj h).symm
      · rw [List.getElem?_eq_none (by simpa using hv)] at h; cases h
    · rw [List.getElem?_set_ne hi] at h
      rcases wipeE_get h with z | ⟨z, m⟩
      · exact .inl z
      · exact .inr ⟨z, by simp only [List.mem_cons, not_or]; exact ⟨fun e => hi e.symm, m⟩⟩
theorem EnvOk.wipe {R : Rl} {H : Hp} {σ : L2.St} {env : Env} (E : EnvOk X R H σ env) (vs : List Nat) : EnvOk X R H (L2.wipe σ vs) (Bc.wipe env vs) := by
  refine ⟨by rw [wipe_length, wipe_len]; exact E.len, fun i s e => ?_, fun i j si sj a e1 e2 o1 o2 q1 q2 => ?_⟩
  · rcases wipeE_get e with z | ⟨z, m⟩
    · subst z; trivial
    · have := E.at_ i s z
      rw [wipe_out m]; exact this
  · rcases wipeE_get e1 with z1 | ⟨z1, m1⟩
    · subst z1; cases o1
    · rcases wipeE_get e2 with z2 | ⟨z2, m2⟩
      · subst z2; cases o2
      · rw [wipe_out m1] at q1
        rw [wipe_out m2] at q2
        exact E.sep i j si sj a z1 z2 o1 o2 q1 q2
theorem wipe_eq {σ σ' : L2.St} {vs : List Nat} (hl : σ'.length = σ.length) (h : ∀ i, i ∉ vs → σ'[i]? = σ[i]?) : L2.wipe σ' vs = L2.wipe σ vs := by
  apply List.ext_getElem?
  intro i
  by_cases hi : i ∈ vs
  · have gen : ∀ (τ : L2.St) (ws : List Nat), i ∈ ws → (L2.wipe τ ws)[i]? = if i < τ.length then some none else none := fun τ ws => by
      induction ws with
      | nil => intro z; cases z
      | cons w ws ih =>
        intro z
        unfold L2.wipe
        by_cases hw : w = i
        · subst hw
          by_cases hlt : w < τ.length
          · rw [List.getElem?_set_self (by rw [wipe_length]; exact hlt), if_pos hlt]
          · rw [List.getElem?_eq_none (by rw [List.length_set, wipe_length]; omega), if_neg hlt]
        · rw [List.getElem?_set_ne hw]
          rcases List.mem_cons.mp z with z | z
          · exact absurd z.symm hw
          · exact ih z
    rw [gen _ _ hi, gen _ _ hi, hl]
  · rw [wipe_out hi, wipe_out hi]; exact h i hi
theorem wipe_wipe (σ : L2.St) (vs : List Nat) : L2.wipe (L2.wipe σ vs) vs = L2.wipe σ vs := wipe_eq (wipe_length _ _) fun i hi => wipe_out hi

/-- a fresh list that is being filled, at D -/
structure Fill (X : Sx) (R : Rl) (H : Hp) (D : Addr) (acc : List Bc.D) : Prop where
  at_ : ∃ vs, H D = some (.lst vs) ∧ Reps X R vs acc
  fz : R.Fz D = none
  bz : R.Bz D = none
  mu : D ∉ R.mu
theorem Fill.grow {R R' : Rl} {H H' : Hp} {D : Addr} {acc : List Bc.D} (g : Grow R H R' H') (f : Fill X R H D acc) : Fill X R' H' D acc := by
  obtain ⟨vs, e, r⟩ := f.at_
  obtain ⟨k1, k2⟩ := g.kept D _ e f.mu
  exact ⟨⟨vs, k1, Reps.mono g.le _ r⟩, k2.trans f.fz, by rw [g.eB]; exact f.bz, g.notmu e f.mu⟩
/-- the heap outside D -/
theorem StOk.at {R : Rl} {H : Hp} {sto : Sto} {D : Addr} {o : HO} (S : StOk X R H sto) (f : R.Fz D = none) (b : R.Bz D = none) (m : D ∉ R.mu) : StOk X R (upd H D o) sto := by
  refine ⟨fun a q e => ?_, fun a q e => ?_, S.len, S.nd, fun n a ds e1 e2 => ?_⟩
  · rw [upd_ne (show a ≠ D from fun z => by rw [z, f] at e; cases e)]; exact S.fz a q e
  · rw [upd_ne (show a ≠ D from fun z => by rw [z, b] at e; cases e)]; exact S.bz a q e
  · obtain ⟨f', b', nb, vs, e3, r⟩ := S.at_ n a ds e1 e2
    exact ⟨f', b', nb, vs, by rw [upd_ne (show a ≠ D from fun z => m (z ▸ List.mem_of_getElem? e1))]; exact e3, r⟩
/-- grown since (R0, H0), where nothing stood at D -/
theorem Grow.at {R0 R : Rl} {H0 H : Hp} {D : Addr} {o : HO} (g : Grow R0 H0 R H) (h : H0 D = none) (hD : D ∉ R0.mu) : Grow R0 H0 R (upd H D o) := by
  refine ⟨g.le, g.eB, fun a q e m => ?_, g.muN, fun a m e => ?_⟩
  · obtain ⟨k1, k2⟩ := g.kept a q e m
    exact ⟨by rw [upd_ne (ne_of_none e h)]; exact k1, k2⟩
  · by_cases z : a = D
    · rw [z, upd_same]; intro q; cases q
    · rw [upd_ne z]; exact g.there a m e
theorem Fill.push {R : Rl} {H : Hp} {D : Addr} {acc : List Bc.D} {vs : List V} {y : V} {d : Bc.D} (f : Fill X R H D acc) (e : H D = some (.lst vs)) (r : Rep X R y d) : Fill X R (upd H D (.lst (vs ++ [y]))) D (acc ++ [d]) := by
  obtain ⟨ws, e2, rs⟩ := f.at_
  rw [e] at e2
  cases e2
  exact ⟨⟨_, upd_same, rs.append (.cons r .nil)⟩, f.fz, f.bz, f.mu⟩
theorem Fill.done2 {R0 R : Rl} {H0 H : Hp} {sto : Sto} {D : Addr} {acc : List Bc.D} {vs : List V} (f : Fill X R H D acc) (e : H D = some (.lst vs)) (rs : Reps X R vs acc) (S : StOk X R H sto) (g : Grow R0 H0 R H) (h : H0 D = none) :
    RLe R (R.put D (.lst vs)) ∧ Grow R0 H0 (R.put D (.lst vs)) H ∧ StOk X (R.put D (.lst vs)) H sto ∧ Rep X (R.put D (.lst vs)) (.ref D) (.lst true acc) := by
  have le : RLe R (R.put D (.lst vs)) := put_le f.fz
  have hp : ∀ a, a ≠ D → (R.put D (.lst vs)).Fz a = R.Fz a := fun a z => upd_ne z
  have hD : (R.put D (.lst vs)).Fz D = some (.lst vs) := upd_same
  refine ⟨le, ⟨g.le.trans le, g.eB, fun a o e1 m => ?_, g.muN, g.there⟩, ⟨fun a o e1 => ?_, S.bz, S.len, S.nd, fun n a ds e1 e2 => ?_⟩, .lst hD (Reps.mono le _ rs)⟩
  · obtain ⟨k1, k2⟩ := g.kept a o e1 m
    exact ⟨k1, by rw [hp a (ne_of_none e1 h)]; exact k2⟩
  · by_cases z : a = D
    · rw [z, hD] at e1
      rw [z, e]; exact e1
    · rw [hp a z] at e1; exact S.fz a o e1
  · obtain ⟨f', b', nb, ws, e3, r⟩ := S.at_ n a ds e1 e2
    refine ⟨by rw [hp a (fun z => f.mu (z ▸ List.mem_of_getElem? e1))]; exact f', b', nb, ws, e3, ?_⟩
    exact Reps.mono (R := { R with Bz := fun _ => none }) (R' := { R.put D (.lst vs) with Bz := fun _ => none }) ⟨le.fz, HLe.refl _, fun _ _ e => e⟩ _ r
/-- it is done: frozen -/
theorem Fill.done {R0 R : Rl} {H0 H : Hp} {sto : Sto} {D : Addr} {acc : List Bc.D} (f : Fill X R H D acc) (S : StOk X R H sto) (g : Grow R0 H0 R H) (h : H0 D = none) :
    ∃ R', Grow R0 H0 R' H ∧ StOk X R' H sto ∧ Rep X R' (.ref D) (.lst true acc) := by
  obtain ⟨vs, e, rs⟩ := f.at_
  have le : RLe R (R.put D (.lst vs)) := put_le f.fz
  have hp : ∀ a, a ≠ D → (R.put D (.lst vs)).Fz a = R.Fz a := fun a z => upd_ne z
  have hD : (R.put D (.lst vs)).Fz D = some (.lst vs) := upd_same
  refine ⟨R.put D (.lst vs), ⟨g.le.trans le, g.eB, fun a o e1 m => ?_, g.muN, g.there⟩, ⟨fun a o e1 => ?_, S.bz, S.len, S.nd, fun n a ds e1 e2 => ?_⟩, .lst hD (Reps.mono le _ rs)⟩
  · obtain ⟨k1, k2⟩ := g.kept a o e1 m
    exact ⟨k1, by rw [hp a (ne_of_none e1 h)]; exact k2⟩
  · by_cases z : a = D
    · rw [z, hD] at e1
      rw [z, e]; exact e1
    · rw [hp a z] at e1; exact S.fz a o e1
  · obtain ⟨f', b', nb, ws, e3, r⟩ := S.at_ n a ds e1 e2
    refine ⟨by rw [hp a (fun z => f.mu (z ▸ List.mem_of_getElem? e1))]; exact f', b', nb, ws, e3, ?_⟩
    exact Reps.mono (R := { R with Bz := fun _ => none }) (R' := { R.put D (.lst vs) with Bz := fun _ => none }) ⟨le.fz, HLe.refl _, fun _ _ e => e⟩ _ r

theorem bind_ok {α β : Type} {m : M α} {f : α → M β} {s : Sto} {p : β × Sto} (h : (m.bind f) s = .ok p) : ∃ a s1, m s = .ok (a, s1) ∧ f a s1 = .ok p := by
  unfold M.bind at h
  cases e : m s with
  | ok q => obtain ⟨a, s1⟩ := q; rw [e] at h; exact ⟨a, s1, rfl, h⟩
  | exc _ _ _ => rw [e] at h; cases h
  | stuck => rw [e] at h; cases h
mutual
theorem asgT_len {cl : Cl} {W' : Nat → List (Nat × Bc.D) → Sto → Prop} : ∀ {t : T} {d : Bc.D} {env : Env} {s : Sto} {k : Env → Sto → Prop}, Out W' (asgT cl t d env s) k → ∀ {env' : Env} {s' : Sto}, asgT cl t d env s = .ok (env', s') → env'.length = env.length
  | .nm i, d, env, s, k, o, env', s', e => by
    unfold asgT at e
    split at e
    · cases e; rw [List.length_set]
    · cases e
  | .tp ts, d, env, s, k, o, env', s', e => by
    unfold asgT at e
    split at e
    · exact asgTs_length e
    · exact asgTs_length e
    · cases e
  | .sub a b, d, env, s, k, o, env', s', e => by
    unfold asgT at e
    obtain ⟨_, _, _, e⟩ := bind_ok e
    obtain ⟨_, _, _, e⟩ := bind_ok e
    obtain ⟨_, _, _, e⟩ := bind_ok e
    cases e; rfl
theorem asgTs_length {cl : Cl} : ∀ {ts : Ts} {ds : List Bc.D} {env : Env} {s : Sto} {env' : Env} {s' : Sto}, asgTs cl ts ds env s = .ok (env', s') → env'.length = env.length
  | .nil, ds, env, s, env', s', e => by
    unfold asgTs at e
    split at e
    · cases e; rfl
    · cases e
  | .cons t ts, ds, env, s, env', s', e => by
    unfold asgTs at e
    split at e
    · obtain ⟨env1, s1, e1, e⟩ := bind_ok e
      rw [asgTs_length e, asgT_len (W' := noW) (k := fun _ _ => True) (by rw [e1]; trivial) e1]
    · cases e
end
/-- the loop's own equation -/
theorem mapO_cons {f : Bc.D → M (Option Bc.D)} {x : Bc.D} {xs : List Bc.D} {s sf : Sto} {ys : List Bc.D} (h : mapO f (x :: xs) s = .ok (ys, sf)) :
    ∃ o s1 zs, f x s = .ok (o, s1) ∧ mapO f xs s1 = .ok (zs, sf) ∧ ys = (match o with | some y => y :: zs | none => zs) := by
  unfold mapO M.bind at h
  cases e : f x s with
  | ok p =>
    obtain ⟨o, s1⟩ := p
    rw [e] at h
    dsimp only at h
    cases e2 : mapO f xs s1 with
    | ok p2 =>
      obtain ⟨zs, s2⟩ := p2
      rw [e2] at h
      cases o with
      | some y => cases h; exact ⟨_, _, _, rfl, e2, rfl⟩
      | none => cases h; exact ⟨_, _, _, rfl, e2, rfl⟩
    | exc _ _ _ => rw [e2] at h; cases h
    | stuck => rw [e2] at h; cases h
  | exc _ _ _ => rw [e] at h; cases h
  | stuck => rw [e] at h; cases h
theorem out_ok {α : Type} {W' : Nat → List (Nat × Bc.D) → Sto → Prop} {r : Bc.R (α × Sto)} {a : α} {s : Sto} {k : α → Sto → Prop} (e : r = .ok (a, s)) (h : k a s) : Out W' r k := by rw [e]; exact h

/-- the reading of an expression that makes a list of its own -/
def tN (X : Sx) (W : WD) (f : Env → M Bc.D) : TE := fun σ H Q => ∃ R env sto, StOk X R H sto ∧ EnvOk X R H σ env ∧
  Out (wE X W R H σ) (f env sto) fun d s' => ∃ ds, d = .lst true ds ∧ ∀ a H' R', Grow R H R' H' → StOk X R' H' s' → H a = none → Fill X R' H' a ds → Q (.ref a) H'
theorem tN_tD {f : Env → M Bc.D} {σ : L2.St} {H : Hp} {Q : VK} (hl : ∀ W' env s k, Out W' (f env s) k → Out W' (f env s) fun (d : Bc.D) s' => k d s' ∧ ∃ ds, d = .lst true ds) (h : tD X W f σ H Q) : tN X W f σ H Q := by
  obtain ⟨R, env, sto, S, E, o⟩ := h
  refine ⟨R, env, sto, S, E, (hl _ _ _ _ o).imp (fun d s' ⟨q, ds, e⟩ => ⟨ds, e, fun a H' R' g S' hn F => ?_⟩) fun _ _ _ w => w⟩
  obtain ⟨R2, g2, S2, r2⟩ := F.done S' g hn
  subst e
  exact q _ H' R2 g2 S2 r2
theorem lc_read {cl : Cl} {t : T} {k : Itb} {it cs : Es} {e : E} {vs ns : List Nat} {σ : L2.St} {H : Hp} {Q : VK} (h : tN X W (evE cl (.lc t k it cs e vs)) σ H Q) (hns : ∀ n ∈ ns, n ∈ vs) :
    tLc (tI X W true fun env => (evEs cl it env).bind (itD k)) (tG X ns (asgT cl t)) (tB X W0 (evCs cl cs)) (tD X W0 (evE cl e)) vs σ H Q := by
  obtain ⟨R0, env, s0, S0, E0, o⟩ := h
  unfold evE at o
  have o : Out (wE X W R0 H σ) ((((evEs cl it env).bind (itD k)).bind fun items => (noX (mapO (fun d => (asgT cl t d (Bc.wipe env vs)).bind fun env1 => (evCs cl cs env1).bind fun b => if b then (evE cl e env1).bind fun y => pure (some y) else pure none) items)).bind fun ys =>
      (need (lenOk ys.length)).bind fun _ => pure (.lst true ys)) s0) (fun (d : Bc.D) (s' : Sto) => ∃ ds, d = Bc.D.lst true ds ∧ ∀ a H' R', Grow R0 H R' H' → StOk X R' H' s' → H a = none → Fill X R' H' a ds → Q (.ref a) H') := by
    refine Out.conv ?_ o
    unfold M.bind
    cases evEs cl it env s0 <;> rfl
  refine ⟨R0, env, s0, S0, E0, (Out.bind o).imp (fun items s1 o1 J H1 R1 g1 S1 jok => ?_) fun _ _ _ w => w⟩
  intro D hD
  generalize hf : (fun d => (asgT cl t d (Bc.wipe env vs)).bind fun env1 => (evCs cl cs env1).bind fun b => if b then (evE cl e env1).bind fun y => (pure (some y) : M (Option Bc.D)) else pure none) = f at o1
  have o2 := Out.bind o1
  obtain ⟨ys, sf, ey, o2⟩ : ∃ ys sf, mapO f items s1 = .ok (ys, sf) ∧ Out (wE X W R0 H σ) (((need (lenOk ys.length)).bind fun _ => M.pure (.lst true ys)) sf) (fun (d : Bc.D) (s' : Sto) => ∃ ds, d = Bc.D.lst true ds ∧ ∀ a H' R', Grow R0 H R' H' → StOk X R' H' s' → H a = none → Fill X R' H' a ds → Q (.ref a) H') := by
    unfold noX at o2
    cases e1 : mapO f items s1 with
    | ok p => rw [e1] at o2; exact ⟨p.1, p.2, rfl, o2⟩
    | exc _ _ _ => rw [e1] at o2; exact o2.elim
    | stuck => rw [e1] at o2; exact o2.elim
  obtain ⟨hl, o3⟩ := o2.needB
  have hl := lenOk_line hl
  have E1 : EnvOk X R1 H1 σ env := E0.grow g1
  have hD1 : R1.Fz D = none := fz_none S1 hD
  have hB1 : R1.Bz D = none := by
    cases z : R1.Bz D with
    | none => rfl
    | some o => rw [S1.bz D o z] at hD; cases hD
  have hM1 : D ∉ R1.mu := fun z => by
    obtain ⟨n, hn⟩ := List.getElem?_of_mem z
    have hlt : n < s1.length := by rw [← S1.len]; exact (List.getElem?_eq_some_iff.mp hn).1
    obtain ⟨_, _, _, ws, e3, _⟩ := S1.at_ n D s1[n] hn (by simp [hlt])
    rw [hD] at e3; cases e3
  have hD0 : H D = none := by
    cases z : H D with
    | none => rfl
    | some o =>
      by_cases m : D ∈ R0.mu
      · exact absurd hD (g1.there D m (by rw [z]; intro q; cases q))
      · rw [(g1.kept D o z m).1] at hD; cases hD
  -- the invariant
  refine ⟨fun i m H' => m = items.length - i ∧ i ≤ items.length ∧ ∃ R' s' acc zs, Grow R1 H1 R' H' ∧ StOk X R' H' s' ∧ Fill X R' H' D acc ∧ mapO f (items.drop i) s' = .ok (zs, sf) ∧ acc ++ zs = ys, ⟨items.length, by simp, Nat.zero_le _, R1, s1, [], ys, ?_, S1.at hD1 hB1 hM1, ⟨⟨[], upd_same, .nil⟩, hD1, hB1, hM1⟩, by simpa using ey, rfl⟩, ?_⟩
  · exact (Grow.refl R1 H1).at hD hM1
  rintro i m H2 ⟨rfl, hi, R2, s2, acc, zs, g2, S2, F2, e2, ea⟩
  by_cases hlt : i < items.length
  · refine .inr ?_
    obtain ⟨go, yl⟩ := jok.go R2 H2 s2 i items[i] (show Grow R1 H1 R2 H2 from g2) S2 (by simp [hlt])
    rw [List.drop_eq_getElem_cons hlt] at e2
    obtain ⟨ob, s3, zs2, e3, e4, ez⟩ := mapO_cons e2
    refine ⟨go, fun H' => i + 1 ≤ items.length ∧ ∃ R' s' acc zs, Grow R1 H1 R' H' ∧ StOk X R' H' s' ∧ Fill X R' H' D acc ∧ mapO f (items.drop (i + 1)) s' = .ok (zs, sf) ∧ acc ++ zs = ys, fun H' n => ⟨items.length - (i + 1), by omega, rfl, n⟩, fun x H3 y => ?_⟩
    obtain ⟨R3, g3, S3, r3⟩ := yl x H3 y
    rw [← hf] at e3
    obtain ⟨env1, s4, e5, e3⟩ := bind_ok e3
    obtain ⟨b, s5, e6, e3⟩ := bind_ok e3
    have g13 := g2.trans g3
    refine ⟨R3, Bc.wipe env vs, s2, items[i], S3, ((E1.grow g13).wipe vs), r3, out_ok e5 fun σ4 H4 R4 g4 S4 E4 k1 _ => ?_⟩
    refine ⟨?_, R4, env1, s4, S4, E4, out_ok e6 fun H5 R5 g5 S5 => ?_⟩
    · have hl4 : σ4.length = (L2.wipe σ vs).length := by
        have a1 := E4.len
        have a2 := ((E1.grow g13).wipe vs).len
        have : env1.length = (Bc.wipe env vs).length := asgT_len (W' := noW) (k := fun _ _ => True) (by rw [e5]; trivial) e5
        omega
      have w1 := wipe_eq hl4 (vs := vs) fun i hi => k1 i fun z => hi (hns i z)
      rw [w1]; exact wipe_wipe σ vs
    · have g15 := (g13.trans g4).trans g5
      have F5 := ((F2.grow g3).grow g4).grow g5
      cases b with
      | false =>
        rw [if_neg Bool.false_ne_true] at e3
        cases e3
        refine iteF ?_
        exact ⟨hlt, R5, s3, acc, zs2, g15, S5, F5, e4, by rw [ez] at ea; exact ea⟩
      | true =>
        rw [if_pos rfl] at e3
        refine iteT ?_
        obtain ⟨yv, s6, e7, e3⟩ := bind_ok e3
        cases e3
        refine ⟨R5, env1, s5, S5, E4.grow g5, out_ok e7 fun v H6 R6 g6 S6 r6 => ?_⟩
        have F6 := F5.grow g6
        obtain ⟨ws, ew, rw6⟩ := F6.at_
        have ez : zs = yv :: zs2 := ez
        have lena : ws.length < sizeLine := by
          rw [rw6.length]
          have : ys.length = acc.length + (zs2.length + 1) := by rw [← ea, ez, List.length_append, List.length_cons]
          omega
        refine ⟨ws, ew, lena, hlt, R6, s3, acc ++ [yv], zs2, (g15.trans g6).at hD hM1, S6.at F6.fz F6.bz F6.mu, F6.push ew r6, e4, ?_⟩
        rw [← ea, ez, List.append_assoc]; rfl
  · refine .inl ⟨jok.stop R2 H2 s2 i (show Grow R1 H1 R2 H2 from g2) S2 (by omega), ?_⟩
    rw [List.drop_eq_nil_of_le (by omega)] at e2
    cases e2
    rw [List.append_nil] at ea
    subst ea
    obtain ⟨ds, e9, q9⟩ := Out.pure (show Out _ (M.pure (Bc.D.lst true acc) sf) _ from o3)
    cases e9
    exact q9 D H2 R2 (g1.trans g2) S2 hD0 F2
theorem lc_lst {cl : Cl} {t : T} {k : Itb} {it cs : Es} {e : E} {vs : List Nat} {W' : Nat → List (Nat × Bc.D) → Sto → Prop} {env : Env} {s : Sto} {kk : Bc.D → Sto → Prop} (h : Out W' (evE cl (.lc t k it cs e vs) env s) kk) :
    Out W' (evE cl (.lc t k it cs e vs) env s) fun d s' => kk d s' ∧ ∃ ds, d = .lst true ds := by
  unfold evE at h ⊢
  have key : ∀ (ys : List Bc.D) (s' : Sto), Out W' (((need (lenOk ys.length)).bind fun _ => (M.pure (.lst true ys) : M Bc.D)) s') kk → Out W' (((need (lenOk ys.length)).bind fun _ => (M.pure (.lst true ys) : M Bc.D)) s') fun d s' => kk d s' ∧ ∃ ds, d = .lst true ds := fun ys s' h => by
    obtain ⟨hl, h⟩ := h.needB
    rw [hl]
    exact ⟨h, _, rfl⟩
  refine Out.unbind (Out.bind h) fun ds s1 h1 => ?_
  refine Out.unbind (Out.bind h1) fun ds s1 h1 => ?_
  refine Out.unbind (Out.bind h1) fun ds s1 h1 => ?_
  exact key _ _ h1
theorem dx_lc {elt tg iter : Expr} {ifs : List Expr} {scope : Scope} {ownp : List (Str × Nat)} {cl : Cl} {t : T} {k : Itb} {it cs : Es} {e : E} {ns : List Nat}
    (hK : X.K = C.K) (hc : C.calm = true) (hN : C.N.Nodup) (hi : PI C tg iter (tI X W true fun env => (evEs cl it env).bind (itD k))) (ok : BlkOk C.N C.env.scope scope ownp)
    (hg : ∀ (s : Shared) (H : Hp) (A : Addr) (c : List (Str × Addr)) (fp : List Addr), PG (C.blk s H scope (compEnvC scope c A C.env) fp) tg (tG X ns (asgT cl t))) (hns : ∀ n ∈ ns, n ∈ ownp.map (·.2))
    (ht : ∀ (s : Shared) (H : Hp) (A : Addr) (c : List (Str × Addr)) (fp : List Addr), PTs (C.blk s H scope (compEnvC scope c A C.env) fp) ifs (tB X W0 (evCs cl cs)))
    (he : ∀ (s : Shared) (H : Hp) (A : Addr) (c : List (Str × Addr)) (fp : List Addr), PE (C.blk s H scope (compEnvC scope c A C.env) fp) elt (tD X W0 (evE cl e)))
    (hs : ∀ x, foldedSetIterable iter C.env x = pure x) :
    PE C (.ListComp elt [⟨tg, iter, ifs, 0⟩] scope pos) (tD X W (evE cl (.lc t k it cs e (ownp.map (·.2))))) := by
  refine (pe_lc hc hN hi ok hg ht he hs).weak fun σ H Q h => ?_
  exact lc_read (tN_tD (fun _ _ _ _ => lc_lst) h) hns
/-- .. its list kept as one's own -/
theorem dn_lc {elt tg iter : Expr} {ifs : List Expr} {scope : Scope} {ownp : List (Str × Nat)} {cl : Cl} {t : T} {k : Itb} {it cs : Es} {e : E} {ns : List Nat}
    (hK : X.K = C.K) (hc : C.calm = true) (hN : C.N.Nodup) (hi : PI C tg iter (tI X W true fun env => (evEs cl it env).bind (itD k))) (ok : BlkOk C.N C.env.scope scope ownp)
    (hg : ∀ (s : Shared) (H : Hp) (A : Addr) (c : List (Str × Addr)) (fp : List Addr), PG (C.blk s H scope (compEnvC scope c A C.env) fp) tg (tG X ns (asgT cl t))) (hns : ∀ n ∈ ns, n ∈ ownp.map (·.2))
    (ht : ∀ (s : Shared) (H : Hp) (A : Addr) (c : List (Str × Addr)) (fp : List Addr), PTs (C.blk s H scope (compEnvC scope c A C.env) fp) ifs (tB X W0 (evCs cl cs)))
    (he : ∀ (s : Shared) (H : Hp) (A : Addr) (c : List (Str × Addr)) (fp : List Addr), PE (C.blk s H scope (compEnvC scope c A C.env) fp) elt (tD X W0 (evE cl e)))
    (hs : ∀ x, foldedSetIterable iter C.env x = pure x) :
    PE C (.ListComp elt [⟨tg, iter, ifs, 0⟩] scope pos) (tN X W (evE cl (.lc t k it cs e (ownp.map (·.2))))) :=
  (pe_lc hc hN hi ok hg ht he hs).weak fun σ H Q h => lc_read h hns
end
end Bc

set_option linter.all false
set_option autoImplicit false
set_option maxRecDepth 100000
set_option maxHeartbeats 1000000
namespace Bc
open PySem PySem.Spec L2

/-! ### sorting -/
theorem insI_perm (x : Int) : ∀ l, (insI x l).Perm (x :: l)
  | [] => .refl _
  | y :: r => by
    unfold insI
    split
    · exact .refl _
    · exact ((insI_perm x r).cons y).trans (.swap x y r)
theorem sortI_perm : ∀ l, (sortI l).Perm l
  | [] => .refl _
  | x :: r => (insI_perm x _).trans ((sortI_perm r).cons x)
theorem insI_pw (x : Int) : ∀ l : List Int, l.Pairwise (· ≤ ·) → (insI x l).Pairwise (· ≤ ·)
  | [], _ => List.pairwise_singleton _ _
  | y :: r, h => by
    unfold insI
    obtain ⟨h1, h2⟩ := List.pairwise_cons.mp h
    split
    · rename_i hx
      refine List.pairwise_cons.mpr ⟨fun z hz => ?_, h⟩
      rcases List.mem_cons.mp hz with rfl | hz
      · exact hx
      · exact Int.le_trans hx (h1 z hz)
    · rename_i hx
      refine List.pairwise_cons.mpr ⟨fun z hz => ?_, insI_pw x r h2⟩
      rcases List.mem_cons.mp ((insI_perm x r).mem_iff.mp hz) with rfl | hz
      · omega
      · exact h1 z hz
theorem sortI_pw : ∀ l, (sortI l).Pairwise (· ≤ ·)
  | [] => .nil
  | x :: r => insI_pw x _ (sortI_pw r)
theorem sortI_uniq {l m : List Int} (p : l.Perm m) (h : l.Pairwise (· ≤ ·)) : l = sortI m :=
  (p.trans (sortI_perm m).symm).eq_of_pairwise (fun x y _ _ h1 h2 => Int.le_antisymm h1 h2) h (sortI_pw m)
def leS (a b : Str) : Prop := ltCps b.cps.toList a.cps.toList = false
theorem leS_iff {a b : Str} : leS a b ↔ a.cps.toList ≤ b.cps.toList := by
  unfold leS
  rw [PyProof.Rows.ltCps_eq, decide_eq_false_iff_not]
  exact Iff.rfl
theorem leS_trans {a b c : Str} (h : leS a b) (k : leS b c) : leS a c := by
  rw [leS_iff] at h k ⊢
  exact List.le_trans h k
theorem leS_anti {a b : Str} (h : leS a b) (k : leS b a) : a = b := by
  rw [leS_iff] at h k
  have := List.le_antisymm h k
  obtain ⟨⟨x⟩⟩ := a
  obtain ⟨⟨y⟩⟩ := b
  have e : x = y := this
  rw [e]
theorem leS_total {a b : Str} (h : ltCps a.cps.toList b.cps.toList = true) : leS a b := by
  rw [leS_iff]
  rw [PyProof.Rows.ltCps_eq, decide_eq_true_eq] at h
  exact List.le_of_lt h
theorem insS_perm (x : Str) : ∀ l, (insS x l).Perm (x :: l)
  | [] => .refl _
  | y :: r => by
    unfold insS
    split
    · exact ((insS_perm x r).cons y).trans (.swap x y r)
    · exact .refl _
theorem sortS_perm : ∀ l, (sortS l).Perm l
  | [] => .refl _
  | x :: r => (insS_perm x _).trans ((sortS_perm r).cons x)
theorem insS_pw (x : Str) : ∀ l : List Str, l.Pairwise leS → (insS x l).Pairwise leS
  | [], _ => List.pairwise_singleton _ _
  | y :: r, h => by
    unfold insS
    obtain ⟨h1, h2⟩ := List.pairwise_cons.mp h
    split
    · rename_i hx
      refine List.pairwise_cons.mpr ⟨fun z hz => ?_, insS_pw x r h2⟩
      rcases List.mem_cons.mp ((insS_perm x r).mem_iff.mp hz) with rfl | hz
      · exact leS_total hx
      · exact h1 z hz
    · rename_i hx
      have hx : leS x y := by unfold leS; simpa using hx
      refine List.pairwise_cons.mpr ⟨fun z hz => ?_, h⟩
      rcases List.mem_cons.mp hz with rfl | hz
      · exact hx
      · exact leS_trans hx (h1 z hz)
theorem sortS_pw : ∀ l, (sortS l).Pairwise leS
  | [] => .nil
  | x :: r => insS_pw x _ (sortS_pw r)
theorem rising_pw : ∀ (l : List Str) (p : Str), PyProof.Rows.risingS p l = true → (p :: l).Pairwise leS
  | [], p, _ => List.pairwise_singleton _ _
  | x :: r, p, h => by
    unfold PyProof.Rows.risingS at h
    rw [Bool.and_eq_true] at h
    have ih := rising_pw r x h.2
    have hx : leS p x := by unfold leS; simpa using h.1
    refine List.pairwise_cons.mpr ⟨fun z hz => ?_, ih⟩
    rcases List.mem_cons.mp hz with rfl | hz
    · exact hx
    · exact leS_trans hx ((List.pairwise_cons.mp ih).1 z hz)
theorem sorted_pw {l : List Str} (h : PyProof.Rows.sortedS l = true) : l.Pairwise leS := by
  cases l with
  | nil => exact .nil
  | cons x r => exact rising_pw r x h
theorem sortS_uniq {l m : List Str} (p : l.Perm m) (h : PyProof.Rows.sortedS l = true) : l = sortS m :=
  (p.trans (sortS_perm m).symm).eq_of_pairwise (fun x y _ _ h1 h2 => leS_anti h1 h2) (sorted_pw h) (sortS_pw m)

/-! ### built-in functions -/
/-- a rule r of the layer answers what g does on trees -/
def FnR (X : Sx) (r : List V → Hp → VK → Prop) (g : List D → M D) : Prop := ∀ (W' : Nat → List (Nat × D) → Sto → Prop) (R : Rl) (H : Hp) (sto : Sto) (vs : List V) (ds : List D) (k : D → Sto → Prop) (Q : VK),
  StOk X R H sto → RepTs X R H vs ds → Out W' (g ds sto) k → (∀ d s', k d s' → ∀ v H' R', Grow R H R' H' → StOk X R' H' s' → Rep X R' v d → Q v H') → r vs H Q
section
variable {X : Sx} {W : WD} {C : Cx} {e : Expr} {es : List Expr} {fs : Env → M (List D)} {x : Str} {p pos : Pos} {id T : String} {r : List V → Hp → VK → Prop} {g : List D → M D}
theorem dx_fn (hc : CallR C (.builtin id) r) (hr : FnR X r g) (hg : Gl C x) (hm : C.mg x = none) (hv : bootBuiltins x = some (.builtin id)) (ha : PA C (e :: es) (tTs X W fs)) (hn : x ≠ "__name__") (hdb : (x == ("__debug__" : Str)) = false)
    (he : starEach (e :: es) C.env = (false, eval e C.env) :: starEach es C.env) (hpl : (backTo pos (starEach es C.env)).any (·.1) = false) : PE C (.Call (.Name x p) (e :: es) [] pos) (tD X W fun env => (fs env).bind g) := by
  refine (pe_callB hc hg hm hv ha hn hdb he hpl).weak fun σ H Q ⟨R, env, sto, S, E, o⟩ => ?_
  refine useTs S E o fun vs H1 R1 ds s1 g1 S1 E1 r1 o1 => ?_
  exact hr _ R1 H1 s1 vs ds _ Q S1 r1 o1 fun d s' q v H' R' g' S' r' => q v H' R' (g1.trans g') S' r'
theorem dx_ty (hc : CallR C (.type T) r) (hr : FnR X r g) (hg : Gl C x) (hm : C.mg x = none) (hv : bootBuiltins x = some (.type T)) (ha : PA C (e :: es) (tTs X W fs)) (hn : x ≠ "__name__") (hdb : (x == ("__debug__" : Str)) = false)
    (he : starEach (e :: es) C.env = (false, eval e C.env) :: starEach es C.env) (hpl : (backTo pos (starEach es C.env)).any (·.1) = false) : PE C (.Call (.Name x p) (e :: es) [] pos) (tD X W fun env => (fs env).bind g) := by
  refine (pe_callTy hc hg hm hv ha hn hdb he hpl).weak fun σ H Q ⟨R, env, sto, S, E, o⟩ => ?_
  refine useTs S E o fun vs H1 R1 ds s1 g1 S1 E1 r1 o1 => ?_
  exact hr _ R1 H1 s1 vs ds _ Q S1 r1 o1 fun d s' q v H' R' g' S' r' => q v H' R' (g1.trans g') S' r'
end
section
variable {X : Sx}
theorem b_len : FnR X (fun xs H Q => ∃ x n, xs = [x] ∧ LenV X.K x H n ∧ Q (.int n) H) bLen := by
  intro W' R H sto vs ds k Q S r o q
  unfold bLen at o
  split at o
  · obtain ⟨v, rfl, rv⟩ := r.one
    split at o
    · rename_i h
      rw [rv.str]
      exact ⟨_, _, rfl, ⟨by rw [sizeLine_eq]; exact h, rfl⟩, got S (.int _) (q _ _ (Out.pure o))⟩
    · exact o.elim
  · obtain ⟨v, rfl, rv⟩ := r.one
    obtain ⟨xs, h, o⟩ := o.ofOptB
    obtain ⟨a, ws, rfl, hs, rs⟩ := rv.seq S h
    refine ⟨_, ws.length, rfl, ?_, ?_⟩
    · rcases hs with hs | hs
      · exact .inl ⟨ws, hs, rfl⟩
      · exact .inr ⟨ws, hs, rfl⟩
    · rw [rs.length]; exact got S (.int _) (q _ _ (Out.pure o))
  · exact o.elim
theorem b_abs : FnR X (fun xs H Q => ∃ i, xs = [.int i] ∧ Q (.int (if i < 0 then -i else i)) H) bAbs := by
  intro W' R H sto vs ds k Q S r o q
  unfold bAbs at o
  split at o
  · obtain ⟨v, rfl, rv⟩ := r.one
    rw [rv.int]
    exact ⟨_, rfl, got S (.int _) (q _ _ (Out.pure o))⟩
  · exact o.elim
theorem b_min : FnR X (fun xs H Q => ∃ i j, xs = [.int i, .int j] ∧ Q (.int (if j < i then j else i)) H) bMin := by
  intro W' R H sto vs ds k Q S r o q
  unfold bMin at o
  split at o
  · obtain ⟨v, w, rfl, rv, rw'⟩ := r.two
    rw [rv.int, rw'.int]
    exact ⟨_, _, rfl, got S (.int _) (q _ _ (Out.pure o))⟩
  · exact o.elim
theorem b_max : FnR X (fun xs H Q => ∃ i j, xs = [.int i, .int j] ∧ Q (.int (if j > i then j else i)) H) bMax := by
  intro W' R H sto vs ds k Q S r o q
  unfold bMax at o
  split at o
  · obtain ⟨v, w, rfl, rv, rw'⟩ := r.two
    rw [rv.int, rw'.int]
    exact ⟨_, _, rfl, got S (.int _) (q _ _ (Out.pure o))⟩
  · exact o.elim
theorem b_int : FnR X (fun xs H Q => (∃ i, xs = [.int i] ∧ Q (.int i) H) ∨ ∃ k, xs = [.bl k] ∧ Q (.int (if k then 1 else 0)) H) bInt := by
  intro W' R H sto vs ds k Q S r o q
  unfold bInt at o
  split at o
  · obtain ⟨v, rfl, rv⟩ := r.one
    rw [rv.int]
    exact .inl ⟨_, rfl, got S (.int _) (q _ _ (Out.pure o))⟩
  · obtain ⟨v, rfl, rv⟩ := r.one
    rw [rv.bl]
    exact .inr ⟨_, rfl, got S (.int _) (q _ _ (Out.pure o))⟩
  · exact o.elim
theorem b_bool : FnR X (fun xs H Q => (∃ i, xs = [.int i] ∧ Q (.bl (i != 0)) H) ∨ ∃ k, xs = [.bl k] ∧ Q (.bl k) H) bBool := by
  intro W' R H sto vs ds k Q S r o q
  unfold bBool at o
  split at o
  · obtain ⟨v, rfl, rv⟩ := r.one
    rw [rv.int]
    exact .inl ⟨_, rfl, got S (.bl _) (q _ _ (Out.pure o))⟩
  · obtain ⟨v, rfl, rv⟩ := r.one
    rw [rv.bl]
    exact .inr ⟨_, rfl, got S (.bl _) (q _ _ (Out.pure o))⟩
  · exact o.elim
theorem b_sum : FnR X (rSum X.K) bSum := by
  intro W' R H sto vs ds k Q S r o q
  unfold bSum at o
  split at o
  · obtain ⟨v, rfl, rv⟩ := r.one
    obtain ⟨ns, h, o⟩ := o.ofOptB
    obtain ⟨a, ws, rfl, hs, rs⟩ := rv.lst S
    rw [rs.ints h] at hs
    exact ⟨a, ns, rfl, .of hs, got S (.int _) (q _ _ (Out.pure o))⟩
  · exact o.elim
theorem b_any : FnR X (rAny X.K) bAny := by
  intro W' R H sto vs ds k Q S r o q
  unfold bAny at o
  split at o
  · obtain ⟨v, rfl, rv⟩ := r.one
    obtain ⟨ns, h, o⟩ := o.ofOptB
    obtain ⟨a, ws, rfl, hs, rs⟩ := rv.lst S
    rw [rs.bls h] at hs
    exact ⟨a, ns, rfl, .of hs, got S (.bl _) (q _ _ (Out.pure o))⟩
  · exact o.elim
theorem b_all : FnR X (rAll X.K) bAll := by
  intro W' R H sto vs ds k Q S r o q
  unfold bAll at o
  split at o
  · obtain ⟨v, rfl, rv⟩ := r.one
    obtain ⟨ns, h, o⟩ := o.ofOptB
    obtain ⟨a, ws, rfl, hs, rs⟩ := rv.lst S
    rw [rs.bls h] at hs
    exact ⟨a, ns, rfl, .of hs, got S (.bl _) (q _ _ (Out.pure o))⟩
  · exact o.elim
theorem b_tuple : FnR X (fun xs H Q => ∃ p ys, xs = [.ref p] ∧ ((SqL X.K H p ys ∧ ∀ l, H l = none → Q (.ref l) (upd H l (.tup ys))) ∨ (SqT X.K H p ys ∧ Q (.ref p) H))) bTuple := by
  intro W' R H sto vs ds k Q S r o q
  unfold bTuple at o
  split at o
  · obtain ⟨v, rfl, rv⟩ := r.one
    rename_i d
    obtain ⟨xs, h, o⟩ := o.ofOptB
    have q := q _ _ (Out.pure o)
    cases d <;> simp only [asSeq] at h <;> cases h
    · rcases rv with rv | ⟨_, _, _, z, _⟩
      · cases rv with | tup e rs => exact ⟨_, _, rfl, .inr ⟨(.inl (.inl (S.fz _ _ e))), got S (.tup e rs) q⟩⟩
      · cases z
    · obtain ⟨a, ws, rfl, hs, rs⟩ := rv.lst S
      exact ⟨a, ws, rfl, .inl ⟨.of hs, fun l hl => new_val S hl (fun R' le e => .tup e (Reps.mono le _ rs)) q⟩⟩
    · obtain ⟨a, ws, rfl, hs, rs⟩ := rv.ro S
      exact ⟨a, ws, rfl, .inl ⟨hs, fun l hl => new_val S hl (fun R' le e => .tup e (Reps.mono le _ rs)) q⟩⟩
  · exact o.elim
theorem b_list : FnR X (fun xs H Q => ∃ p ys, xs = [.ref p] ∧ (SqL X.K H p ys ∨ SqT X.K H p ys) ∧ ∀ l, H l = none → Q (.ref l) (upd H l (.lst ys))) bList := by
  intro W' R H sto vs ds k Q S r o q
  unfold bList at o
  split at o
  · obtain ⟨v, rfl, rv⟩ := r.one
    obtain ⟨xs, h, o⟩ := o.ofOptB
    obtain ⟨a, ws, rfl, hs, rs⟩ := rv.seq S h
    exact ⟨a, ws, rfl, hs, fun l hl => new_val S hl (fun R' le e => .lst e (Reps.mono le _ rs)) (q _ _ (Out.pure o))⟩
  · exact o.elim
abbrev rSort2 (K : PySem.W.Frag) : List V → Hp → VK → Prop := fun vs H Q => rSortedI K vs H Q ∨ rSortedS K vs H Q
theorem cr_sort2 {C : Cx} : CallR C (.builtin "sorted") (rSort2 C.K) := cr_sortedI.or cr_sortedS
theorem Reps.of_strs {R : Rl} (ns : List Str) : Reps X R (ns.map V.str) (ns.map D.str) := by
  induction ns with
  | nil => exact .nil
  | cons n ns ih => exact .cons (.str n) ih
theorem b_sorted : FnR X (rSort2 X.K) bSorted := by
  intro W' R H sto vs ds k Q S r o q
  unfold bSorted at o
  split at o
  · obtain ⟨v, rfl, rv⟩ := r.one
    obtain ⟨a, ws, rfl, hs, rs⟩ := rv.lst S
    obtain ⟨ys, h, o⟩ := o.ofOptB
    have q := q _ _ (Out.pure o)
    unfold sortD at h
    split at h
    · rename_i ns h2
      cases h
      rw [rs.ints h2] at hs
      refine .inl ⟨a, ns, rfl, .of hs, fun ns' p h1 h2 hp => ?_⟩
      rw [sortI_uniq h1 h2]
      exact new_val S hp (fun R' le e => .lst e (Reps.of_ints _)) q
    · split at h
      · rename_i ns h2
        split at h
        · rename_i hl
          cases h
          rw [rs.strs h2] at hs
          refine .inr ⟨a, ns, rfl, .of hs, hl, fun ns' p h1 h2 hp => ?_⟩
          rw [sortS_uniq h1 h2]
          exact new_val S hp (fun R' le e => .lst e (Reps.of_strs _)) q
        · cases h
      · cases h
  · exact o.elim
abbrev rStr2 : List V → Hp → VK → Prop := fun xs H Q => (∃ i : Int, xs = [.int i] ∧ i.natAbs.log2 < 1920 ∧ Q (.str (toString i)) H) ∨ ∃ a, xs = [.str a] ∧ Q (.str a) H
theorem b_str : FnR X rStr2 bStr := by
  intro W' R H sto vs ds k Q S r o q
  unfold bStr at o
  split at o
  · obtain ⟨v, rfl, rv⟩ := r.one
    rw [rv.int]
    split at o
    · rename_i h
      exact .inl ⟨_, rfl, h, got S (.str _) (q _ _ (Out.pure o))⟩
    · exact o.elim
  · obtain ⟨v, rfl, rv⟩ := r.one
    rw [rv.str]
    exact .inr ⟨_, rfl, got S (.str _) (q _ _ (Out.pure o))⟩
  · exact o.elim
theorem b_divmod : FnR X (fun xs H Q => ∃ i j, xs = [.int i, .int j] ∧ CDivP i j ∧ ∀ p, H p = none → Q (.ref p) (upd H p (.tup [.int (i / j), .int (i % j)]))) bDivmod := by
  intro W' R H sto vs ds k Q S r o q
  unfold bDivmod at o
  split at o
  · obtain ⟨v, w, rfl, rv, rw'⟩ := r.two
    rw [rv.int, rw'.int]
    split at o
    · rename_i h
      refine ⟨_, _, rfl, pyDiv_ok h, fun p hp => ?_⟩
      exact new_val S hp (fun R' le e => .tup e (.cons (.int _) (.cons (.int _) .nil))) (q _ _ (Out.pure o))
    · exact o.elim
  · exact o.elim
end

/-! ### isinstance -/
section
variable {X : Sx} {W : WD} {C : Cx}
def tyN : D → Option String
  | .non => some "NoneType"
  | .bl _ => some "bool"
  | .int _ => some "int"
  | .str _ => some "str"
  | .tup _ => some "tuple"
  | .lst _ _ => some "list"
  | _ => none
def Ty.name : Ty → String
  | .int => "int"
  | .bool => "bool"
  | .str => "str"
  | .tuple => "tuple"
  | .list => "list"
  | .dict => "dict"
  | .cls _ => "object"
theorem ty_x {R : Rl} {H : Hp} {sto : Sto} {v : V} {d : D} {n : String} (S : StOk X R H sto) (r : RepT X R H v d) (e : tyN d = some n) : TyX X.K H v (.type n) := by
  cases d with
  | non => cases e; rw [r.non]; exact .base .non
  | bl b => cases e; rw [r.bl]; exact .base (.bl _)
  | int i => cases e; rw [r.int]; exact .base (.int _)
  | str x => cases e; rw [r.str]; exact .base (.str _)
  | tup xs =>
    cases e
    obtain ⟨a, vs, rfl, h, _⟩ := r.tup S
    rcases h with (h | ⟨o, h⟩) | ⟨o, _, _, h, hc, _⟩
    · exact .base (.tup h)
    · exact .fTuple h
    · exact .kTuple h hc
  | lst b xs =>
    cases e
    obtain ⟨a, vs, rfl, h, _⟩ := r.lst S
    exact .base (.lst h)
  | _ => cases e
theorem isi_tab {d : D} {t : Ty} {n : String} {b : Bool} (e : tyN d = some n) (h : isiD d t = some b) (ht : ∀ c, t ≠ .cls c) : kitB n t.name = some b := by
  cases d <;> cases e <;> cases t <;> first
    | exact absurd rfl (ht _)
    | (cases h; decide +kernel)
end
end Bc

set_option linter.all false
set_option autoImplicit false
set_option maxRecDepth 100000
set_option maxHeartbeats 1000000
namespace Bc
open PySem PySem.Spec L2

section
variable {X : Sx} {W : WD} {C : Cx} {a b c : Expr} {fa fb fc : Env → M D} {pos : Pos}
/-! ### subscripts, slices -/
theorem at_reps {R : Rl} {vs : List V} {ds : List D} {i : Int} {d : D} (r : Reps X R vs ds) (e : atI ds i = some d) : ∃ v, atI vs i = some v ∧ Rep X R v d := by
  unfold atI at e ⊢
  rw [r.length]
  cases h : ixN ds.length i with
  | none => rw [h] at e; cases e
  | some j =>
    rw [h] at e
    exact r.get e
theorem dx_sub (hK : X.K = C.K) (ha : PE C a (tT X W fa)) (hb : PE C b (tT X W fb)) (hs : PlainIx b) :
    PE C (.Subscript a b pos) (tD X W fun env => (fa env).bind fun x => (fb env).bind fun y => subD x y) := by
  refine (pe_ix ix_seq ha hb hs).weak fun σ H Q ⟨R, env, sto, S, E, o⟩ => ?_
  refine useT S E o fun v H1 R1 d s1 g1 S1 E1 r1 o1 => ?_
  have o1 : Out (wE X W R1 H1 σ) (((fb env).bind fun y => subD d y) s1) _ := o1.imp (fun _ _ q => q) (wE_on g1)
  refine useT S1 E1 o1 fun v2 H2 R2 d2 s2 g2 S2 E2 r2 o2 => ?_
  have r1 := r1.grow g2
  have fin : ∀ (z : D) (w : V), Rep X R2 w z → (∀ v H' R', Grow R H R' H' → StOk X R' H' s2 → Rep X R' v z → Q v H') → Q w H2 := fun z w rz q => q w H2 R2 (g1.trans g2) S2 rz
  unfold subD at o2
  split at o2
  · have e1 := r1.str
    have e2 := r2.int
    rw [e1, e2]
    split at o2
    · rename_i hl
      obtain ⟨d, e, q⟩ := o2.ofOpt
      obtain ⟨ch, e1, rfl⟩ := Option.map_eq_some_iff.mp e
      exact .inr (.inr ⟨_, _, ch, rfl, rfl, by rw [sizeLine_eq]; exact hl, e1, fin _ _ (.str _) q⟩)
    · exact o2.elim
  · obtain ⟨d, e, q⟩ := o2.ofOpt
    obtain ⟨p, vs, rfl, h, rs⟩ := r1.tup S2
    obtain ⟨w, e1, rw'⟩ := at_reps rs e
    rw [r2.int]
    exact .inr (.inl ⟨p, vs, _, w, rfl, rfl, hK ▸ h, e1, fin _ _ rw' q⟩)
  · obtain ⟨d, e, q⟩ := o2.ofOpt
    obtain ⟨p, vs, rfl, h, rs⟩ := r1.lst S2
    obtain ⟨w, e1, rw'⟩ := at_reps rs e
    rw [r2.int]
    exact .inl ⟨p, vs, _, w, rfl, rfl, .of h, e1, fin _ _ rw' q⟩
  · obtain ⟨d, e, q⟩ := o2.ofOpt
    obtain ⟨p, vs, rfl, h, rs⟩ := r1.ro S2
    obtain ⟨w, e1, rw'⟩ := at_reps rs e
    rw [r2.int]
    exact .inl ⟨p, vs, _, w, rfl, rfl, hK ▸ h, e1, fin _ _ rw' q⟩
  · obtain ⟨p, rfl, hp⟩ := r1.loc
    rw [r2.int]
    obtain ⟨d, e, q⟩ := Out.ofOpt o2
    obtain ⟨xs, hxs, hd⟩ := Option.bind_eq_some_iff.mp e
    obtain ⟨f, b, nb, vs, e, rs⟩ := S2.at_ _ p xs hp hxs
    obtain ⟨w, e1, rw'⟩ := at_reps rs hd
    refine .inl ⟨p, vs, _, w, rfl, rfl, .of e, e1, fin d w ?_ q⟩
    have le : RLe { R2 with Bz := fun _ => none } R2 := ⟨HLe.refl _, fun a o z => (by cases (show (none : Option HO) = some o from z)), fun _ _ z => z⟩
    exact rw'.mono le
  · exact o2.elim
/-- a slice's part -/
def tO (X : Sx) (W : WD) (f : Env → M (Option Int)) : TO := fun σ H Q => ∃ R env sto, StOk X R H sto ∧ EnvOk X R H σ env ∧ Out (wE X W R H σ) (f env sto) fun d s' => ∀ H' R', Grow R H R' H' → StOk X R' H' s' → Q d H'
theorem PO.weak {e : Option Expr} {t t' : TO} (h : PO C e t) (w : ∀ σ H Q, t' σ H Q → t σ H Q) : PO C e t' := ⟨fun pins s σ H Q I q => h.run pins s σ H Q I (w σ H Q q)⟩
theorem do_no : PO C none (tO X W fun _ => M.pure none) := PO.weak po_none fun σ H Q ⟨R, env, sto, S, E, o⟩ => o.pure H R (Grow.refl _ _) S
theorem do_ex (ha : PE C a (tT X W fa)) : PO C (some a) (tO X W fun env => (fa env).bind fun x => match x with
    | .int i => M.pure (some i)
    | _ => stuck) := by
  refine PO.weak (po_some ha) fun σ H Q ⟨R, env, sto, S, E, o⟩ => ?_
  refine useT S E o fun v H1 R1 d s1 g1 S1 E1 r1 o1 => ?_
  split at o1
  · rw [r1.int]; exact ⟨_, rfl, o1.pure H1 R1 g1 S1⟩
  · exact o1.elim
theorem useO {β : Type} {R : Rl} {H : Hp} {sto : Sto} {σ : L2.St} {env : Env} {f : Env → M (Option Int)} {g : Option Int → M β} {k : β → Sto → Prop} {Kx : Option Int → Hp → Prop} (S : StOk X R H sto) (E : EnvOk X R H σ env)
    (h : Out (wE X W R H σ) (((f env).bind g) sto) k)
    (hk : ∀ b H1 R1 s1, Grow R H R1 H1 → StOk X R1 H1 s1 → EnvOk X R1 H1 σ env → Out (wE X W R H σ) (g b s1) k → Kx b H1) : tO X W f σ H Kx :=
  ⟨R, env, sto, S, E, (Out.bind h).imp (fun d s q H' R' g' S' => hk d H' R' s g' S' (E.grow g') q) fun _ _ _ w => w⟩
theorem Reps.cut {R : Rl} {vs : List V} {ds : List D} (r : Reps X R vs ds) (lo hi : Option Int) : Reps X R (cutV vs lo hi) (cutD ds lo hi) := by
  unfold cutV cutD
  rw [r.length]
  exact (r.drop _).take _
theorem cut_whole {ds : List D} {lo hi : Option Int} (h : HT.sIx ds.length 0 lo = 0 ∧ HT.sIx ds.length ds.length hi = ds.length) : cutD ds lo hi = ds := by
  unfold cutD
  rw [h.1, h.2]
  simp
theorem dx_slice {lo hi : Option Expr} {fl fh : Env → M (Option Int)} {p2 : Pos} (hK : X.K = C.K) (ha : PE C a (tT X W fa)) (hl : PO C lo (tO X W fl)) (hh : PO C hi (tO X W fh)) :
    PE C (.Subscript a (.Slice lo hi none p2) pos) (tD X W fun env => (fa env).bind fun x => (fl env).bind fun l => (fh env).bind fun h => sliceD x l h) := by
  refine (pe_slice (sl_list.or sl_tupA) ha hl hh).weak fun σ H Q ⟨R, env, sto, S, E, o⟩ => ?_
  refine useT S E o fun v H1 R1 d s1 g1 S1 E1 r1 o1 => ?_
  have o1 : Out (wE X W R1 H1 σ) (((fl env).bind fun l => (fh env).bind fun h => sliceD d l h) s1) _ := o1.imp (fun _ _ q => q) (wE_on g1)
  refine useO S1 E1 o1 fun l H2 R2 s2 g2 S2 E2 o2 => ?_
  have o2 : Out (wE X W R2 H2 σ) (((fh env).bind fun h => sliceD d l h) s2) _ := o2.imp (fun _ _ q => q) (wE_on g2)
  refine useO S2 E2 o2 fun h H3 R3 s3 g3 S3 E3 o3 => ?_
  have g13 := (g1.trans g2).trans g3
  have r3 := r1.grow (g2.trans g3)
  unfold sliceD at o3
  split at o3
  · obtain ⟨p, vs, rfl, hp, rs⟩ := r3.tup S3
    have q := Out.pure o3
    refine .inr ⟨p, vs, rfl, hK ▸ hp, fun hw => ?_, fun hw p' hp' => ?_⟩
    · rw [rs.length] at hw
      rw [cut_whole hw] at q
      rcases r3 with r3 | ⟨_, _, _, z, _⟩
      · exact q _ H3 R3 g13 S3 r3
      · cases z
    · exact new_val S3 hp' (fun R' le e => .tup e (Reps.mono le _ (rs.cut _ _))) fun v H' R' g' S' r' => q v H' R' (g13.trans g') S' r'
  · obtain ⟨p, vs, rfl, hp, rs⟩ := r3.lst S3
    have q := Out.pure o3
    exact .inl ⟨p, vs, rfl, .of hp, fun p' hp' => new_val S3 hp' (fun R' le e => .lst e (Reps.mono le _ (rs.cut _ _))) fun v H' R' g' S' r' => q v H' R' (g13.trans g') S' r'⟩
  · obtain ⟨p, vs, rfl, hp, rs⟩ := r3.ro S3
    have q := Out.pure o3
    exact .inl ⟨p, vs, rfl, hK ▸ hp, fun p' hp' => new_val S3 hp' (fun R' le e => .lst e (Reps.mono le _ (rs.cut _ _))) fun v H' R' g' S' r' => q v H' R' (g13.trans g') S' r'⟩
  · exact o3.elim

/-! ### chains -/
theorem dx_cmp2 {o1 o2 : CmpOp} {r1 r2 : R2} {g1 g2 : D → D → M D} (h1 : OpR C (compareOp o1) r1) (h2 : OpR C (compareOp o2) r2) (k1 : Op2 X r1 g1) (k2 : Op2 X r2 g2)
    (ha : PE C a (tT X W fa)) (hb : PE C b (tT X W fb)) (hc : PE C c (tT X W fc)) (hm : lastMarks [o1, o2] [b, c] = false)
    (hbl : ∀ x y W' (sto : Sto) (k : D → Sto → Prop), Out W' (g1 x y sto) k → Out W' (g1 x y sto) fun d s => k d s ∧ ∃ b, d = .bl b) :
    PE C (.Compare a [o1, o2] [b, c] pos) (tD X W fun env => (fa env).bind fun x => (fb env).bind fun y => (g1 x y).bind fun r => match r with
      | .bl true => (fc env).bind fun z => g2 y z
      | .bl false => M.pure (.bl false)
      | _ => stuck) := by
  refine (pe_chain h1 h2 ha hb hc hm).weak fun σ H Q ⟨R, env, sto, S, E, o⟩ => ?_
  refine useT S E o fun v H1 R1 d s1 g1' S1 E1 r1' o1 => ?_
  have o1 : Out (wE X W R1 H1 σ) (((fb env).bind fun y => (g1 d y).bind fun r => match r with
      | .bl true => (fc env).bind fun z => g2 y z
      | .bl false => M.pure (.bl false)
      | _ => stuck) s1) _ := o1.imp (fun _ _ q => q) (wE_on g1')
  refine useT S1 E1 o1 fun v2 H2 R2 d2 s2 g2' S2 E2 r2' o2 => ?_
  refine k1 _ R2 H2 s2 v v2 d d2 _ _ S2 (r1'.grow g2') r2' (hbl _ _ _ _ _ (Out.bind o2)) fun dr s3 q v3 H3 R3 g3 S3 r3 => ?_
  obtain ⟨q, bb, rfl⟩ := q
  cases r3
  refine ⟨bb, rfl, ?_⟩
  have gg := (g1'.trans g2').trans g3
  cases bb with
  | false => rw [if_neg Bool.false_ne_true]; exact Out.pure (show Out _ (M.pure (D.bl false) s3) _ from q) (.bl false) H3 R3 gg S3 (.bl _)
  | true =>
    rw [if_pos rfl]
    have q : Out (wE X W R1 H1 σ) (((fc env).bind fun z => g2 d2 z) s3) _ := q
    have q : Out (wE X W R3 H3 σ) (((fc env).bind fun z => g2 d2 z) s3) _ := q.imp (fun _ _ q => q) (wE_on (g2'.trans g3))
    refine useT S3 (E2.grow g3) q fun v4 H4 R4 d4 s4 g4 S4 E4 r4 o4 => ?_
    exact k2 _ R4 H4 s4 v2 v4 d2 d4 _ Q S4 ((r2'.grow g3).grow g4) r4 o4 fun d' s' q v' H' R' g' S' r' => q v' H' R' ((gg.trans g4).trans g') S' r'
theorem dt_cmp2 {o1 o2 : CmpOp} {r1 r2 : R2} {g1 g2 : D → D → M D} (h1 : OpR C (compareOp o1) r1) (h2 : OpR C (compareOp o2) r2) (k1 : Op2 X r1 g1) (k2 : Op2 X r2 g2)
    (ha : PE C a (tT X W fa)) (hb : PE C b (tT X W fb)) (hc : PE C c (tT X W fc)) (hm : lastMarks [o1, o2] [b, c] = false)
    (hbl : ∀ x y W' (sto : Sto) (k : D → Sto → Prop), Out W' (g1 x y sto) k → Out W' (g1 x y sto) fun d s => k d s ∧ ∃ b, d = .bl b)
    (hbl2 : ∀ x y W' (sto : Sto) (k : D → Sto → Prop), Out W' (g2 x y sto) k → Out W' (g2 x y sto) fun d s => k d s ∧ ∃ b, d = .bl b) :
    PT C (.Compare a [o1, o2] [b, c] pos) (tB X W fun env => ((fa env).bind fun x => (fb env).bind fun y => (g1 x y).bind fun r => match r with
      | .bl true => (fc env).bind fun z => g2 y z
      | .bl false => M.pure (.bl false)
      | _ => stuck).bind truM) := by
  refine (pt_chain h1 h2 ha hb hc hm).weak fun σ H Q ⟨R, env, sto, S, E, o⟩ => ?_
  have o := Out.bind o
  refine useT S E o fun v H1 R1 d s1 g1' S1 E1 r1' o1 => ?_
  have o1 : Out (wE X W R1 H1 σ) (((fb env).bind fun y => (g1 d y).bind fun r => match r with
      | .bl true => (fc env).bind fun z => g2 y z
      | .bl false => M.pure (.bl false)
      | _ => stuck) s1) _ := o1.imp (fun _ _ q => q) (wE_on g1')
  refine useT S1 E1 o1 fun v2 H2 R2 d2 s2 g2' S2 E2 r2' o2 => ?_
  refine k1 _ R2 H2 s2 v v2 d d2 _ _ S2 (r1'.grow g2') r2' (hbl _ _ _ _ _ (Out.bind o2)) fun dr s3 q v3 H3 R3 g3 S3 r3 => ?_
  obtain ⟨q, bb, rfl⟩ := q
  cases r3
  refine ⟨bb, rfl, ?_⟩
  have gg := (g1'.trans g2').trans g3
  cases bb with
  | false =>
    rw [if_neg Bool.false_ne_true]
    have q2 := Out.pure (show Out _ (M.pure (D.bl false) s3) _ from q)
    exact ⟨false, rfl, Out.pure (show Out _ (M.pure false s3) _ from q2) H3 R3 gg S3⟩
  | true =>
    rw [if_pos rfl]
    have q : Out (wE X W R1 H1 σ) (((fc env).bind fun z => g2 d2 z) s3) _ := q
    have q : Out (wE X W R3 H3 σ) (((fc env).bind fun z => g2 d2 z) s3) _ := q.imp (fun _ _ q => q) (wE_on (g2'.trans g3))
    refine useT S3 (E2.grow g3) q fun v4 H4 R4 d4 s4 g4 S4 E4 r4 o4 => ?_
    refine k2 _ R4 H4 s4 v2 v4 d2 d4 _ _ S4 ((r2'.grow g3).grow g4) r4 (hbl2 _ _ _ _ _ o4) fun d' s' q v' H' R' g' S' r' => ?_
    obtain ⟨q, bb, rfl⟩ := q
    cases r'
    exact ⟨bb, rfl, Out.pure (show Out _ (M.pure bb s') _ from q) H' R' ((gg.trans g4).trans g') S'⟩
/-! ### isinstance -/
theorem isi_one (hK : X.K = C.K) {T : Ty} {x y : Str} {p pos p2 : Pos} (hg : Gl C x) (hm : C.mg x = none) (hx : x = "isinstance") (hg2 : Gl C y) (hm2 : C.mg y = none) (hy : bootBuiltins y = some (.type T.name)) (hn2 : y ≠ "__name__") (hdb2 : (y == ("__debug__" : Str)) = false) (hT : ∀ c, T ≠ .cls c)
    (ha : PE C a (tT X W fa)) (he : starEach [a, .Name y p2] C.env = (false, eval a C.env) :: starEach [.Name y p2] C.env) :
    PE C (.Call (.Name x p) [a, .Name y p2] [] pos) (tD X W fun env => (fa env).bind fun v => (ofOpt (isiDs v [T])).bind fun b => M.pure (.bl b)) := by
  subst hx
  have hb : PE C (.Name y p2) (tC (.ty T.name)) := pe_bltn hg2 hm2 hy rfl hn2 hdb2
  refine (pe_callB call_isi hg hm PyProof.Rows.boot_isinstance (pa_cons ha (pa_cons hb pa_nil rfl) he) (by decide) (by decide) he rfl).weak fun σ H Q ⟨R, env, sto, S, E, o⟩ => ?_
  refine useT S E o fun v H1 R1 d s1 g1 S1 E1 r1 o1 => ?_
  obtain ⟨bb, e, o2⟩ := o1.ofOptB
  have e2 : isiD d T = some bb := by
    unfold isiDs at e
    split at e
    · rename_i h; cases e; exact h
    · rename_i h; simp only [isiDs] at e; cases e; exact h
    · cases e
  have ⟨n, hn⟩ : ∃ n, tyN d = some n := by
    cases d <;> first | exact ⟨_, rfl⟩ | (cases T <;> first | (cases e2; done) | exact absurd rfl (hT _) | skip)
  exact ⟨v, .ty T.name, .type n, .type T.name, bb, rfl, .ty _, hK ▸ ty_x S1 r1 hn, kit_ty (isi_tab hn e2 hT), o2.pure (.bl bb) H1 R1 g1 S1 (.bl _)⟩
/-! ### methods of built-in values -/
theorem dx_bits {apos : Pos} (ha : PE C a (tT X W fa)) (hbase : attributeBase a "bit_length" C.env (eval a C.env) = eval a C.env) (hline : (apos.endLine == pos.line) = true) :
    PE C (.Call (.Attribute a "bit_length" apos) [] [] pos) (tD X W fun env => (fa env).bind fun x => mBits x []) := by
  refine (pe_bits ha hbase hline).weak fun σ H Q ⟨R, env, sto, S, E, o⟩ => ?_
  refine useT S E o fun v H1 R1 d s1 g1 S1 E1 r1 o1 => ?_
  cases d <;> try exact o1.elim
  rw [r1.int]; exact ⟨_, rfl, Out.pure o1 (.int _) H1 R1 g1 S1 (.int _)⟩
end
end Bc

set_option linter.all false
set_option autoImplicit false
set_option maxRecDepth 100000
set_option maxHeartbeats 1000000
namespace Bc
open PySem PySem.Spec L2 PyProof.Rows
/-! ### x[::-1] -/
theorem slicePart_' {prog : Program} {w : World} {A : Around} {E : Value → Shared → Prop} {s : Shared} {v : Value} {o : Option Int} {Q : Option Int → Shared → Prop} (p : IsPart v o) (h : Q o s) : wpAny (model prog w) A (Builtin.Slice.slicePartIndex v) Q E s := by
  cases p with
  | none => exact slicePart_none h
  | int i t => exact slicePart_int h
theorem rev_pick (xs : Array Value) : ((List.range xs.size).filterMap fun (k : Nat) => xs[((((xs.size : Nat) : Int) - 1) + (k : Int) * (-1)).toNat]?).toArray = xs.toList.reverse.toArray := by
  have e : (fun (k : Nat) => xs[((((xs.size : Nat) : Int) - 1) + (k : Int) * (-1)).toNat]?) = (fun i => xs[i]?) ∘ fun k => xs.size - 1 - k := by
    funext k
    have : ((((xs.size : Nat) : Int) - 1) + (k : Int) * (-1)).toNat = xs.size - 1 - k := by omega
    rw [this]
    rfl
  rw [e, ← List.filterMap_map, PySem.W.krv_range, List.filterMap_reverse, PySem.W.krv_all]
theorem sliceApplied_rev {prog : Program} {w : World} {A : Around} {E : Value → Shared → Prop} {s : Shared} {sl : Addr} {vs : Value} {n : Nat} {Q : Int × Int × Nat → Shared → Prop} (hs : s.heap.IsSliceOf sl .none .none vs) (ps : IsPart vs (some (-1)))
    (h : Q ((n : Int) - 1, -1, n) s) : wpAny (model prog w) A (Builtin.Slice.sliceApplied (.ref sl) (pure (n : Int))) Q E s := by
  obtain ⟨os, hos, hcs, hds⟩ := id hs
  unfold Builtin.Slice.sliceApplied Builtin.Slice.sliceFields
  refine wpAny_bind (wpAny_bind (wpAny_field hos hds (x := .none) rfl (wpAny_bind (wpAny_field hos hds (x := .none) rfl (wpAny_bind (wpAny_field hos hds (x := vs) rfl (wpAny_pure ?_)))))))
  refine wpAny_bind (slicePart_' ps ?_)
  show wpAny _ _ (if ((-1 : Int) == 0) = true then _ else _) _ _ s
  rw [if_neg (by decide)]
  refine wpAny_bind (slicePart_none (wpAny_bind (slicePart_none (wpAny_bind (wpAny_pure ?_)))))
  show wpAny _ _ (pure ((n : Int) - 1, (-1 : Int), Builtin.Slice.slicePlaces ((n : Int) - 1) (-1) (-1))) _ _ s
  have hp : Builtin.Slice.slicePlaces ((n : Int) - 1) (-1) (-1) = n := by
    unfold Builtin.Slice.slicePlaces
    rw [if_neg (by decide), show (- (-1 : Int)) = 1 from rfl, Int.ediv_one]
    split <;> omega
  rw [hp]
  exact wpAny_pure h
theorem getItem_tuple_rev {prog : Program} {w : World} {A : Around} {E : Value → Shared → Prop} {s : Shared} {t sl : Addr} {items : Array Value} {vs : Value} {Q : Value → Shared → Prop} (ht : IsTup s.heap t items) (hs : s.heap.IsSliceOf sl .none .none vs) (ps : IsPart vs (some (-1)))
    (h : Q (.ref s.heap.objs.size) { s with heap := s.heap.push { cls := .type "tuple", data := .seq items.toList.reverse.toArray } })
    (hsz : items.size ≤ sizeLine) : wpAny (model prog w) A (getItem (.ref t) (.ref sl)) Q E s := by
  have htake : sizeOk (.seq items.toList.reverse.toArray) := by
    show items.toList.reverse.toArray.size ≤ sizeLine
    rw [List.size_toArray, List.length_reverse, Array.length_toList]
    exact hsz
  obtain ⟨os, hos, hcs, hds⟩ := id hs
  have hTs : s.TypeIs (.ref sl) "slice" := ⟨os, hos, hcs⟩
  unfold getItem
  try with_reducible refine wpAny_holding ?_
  first | refine wpAny_bind (wpAny_pure ?_) | skip
  refine wpAny_bind (wpAny_sequenceKey ht.typeIs (by decide) ?_)
  refine wpAny_bind (wpAny_callSpecial?_slot (name := Str.ofString "__getitem__") ht.typeIs PyProof.Rows.slot_tuple_getitem
    (wpAny_call_entry PyProof.Rows.slot_tuple_getitem ht.typeIs entry_tuple_getitem ?_ (args_tuple_getitem _ _)))
  show wpAny _ _ (Builtin.Tuple.tupleItemsOf (.ref t) >>= _) _ _ s
  refine wpAny_bind (tupleItemsOf_ ht ?_)
  refine wpAny_bind (wpAny_typeOf hTs ?_)
  rw [if_pos (by decide)]
  refine wpAny_bind (sliceApplied_rev hs ps ?_)
  have hno : ¬ (((((items.size : Nat) : Int) - 1) == 0 && (-1 : Int) == 1 && items.size == items.size) = true) := by
    intro q
    rw [Bool.and_eq_true, Bool.and_eq_true] at q
    exact absurd q.1.2 (by decide)
  show wpAny _ _ (if ((((items.size : Nat) : Int) - 1) == 0 && (-1 : Int) == 1 && items.size == items.size) = true then _ else _) _ _ s
  rw [if_neg hno, rev_pick]
  first
    | exact wpAny_bind (m := Builtin.Tuple.tupleExact _) (wpAny_newObj_type (wpAny_pure ⟨_, rfl, wpAny_pure h⟩) htake)
    | exact wpAny_bind (m := Builtin.Tuple.tupleExact _) (wpAny_newObj_type (wpAny_bind (wpAny_pure (wpAny_pure ⟨_, rfl, wpAny_pure h⟩))) htake)
    | exact wpAny_bind (wpAny_bind (m := Builtin.Tuple.tupleExact _) (wpAny_newObj_type (wpAny_pure (wpAny_pure ⟨_, rfl, wpAny_pure h⟩)) htake))
    | exact wpAny_bind (wpAny_bind (m := Builtin.Tuple.tupleExact _) (wpAny_newObj_type (wpAny_pure ⟨_, rfl, wpAny_pure h⟩) htake))
section
variable {X : Cx} {e : Expr} {te : TE} {st : Expr} {ts : TO} {pos p2 : Pos}
def tRev (K : PySem.W.Frag) (te : TE) (ts : TO) : TE := fun σ H Q => te σ H fun x H1 => ts σ H1 fun o H2 => o = some (-1) ∧
  ((∃ a xs, x = .ref a ∧ SqL K H2 a xs ∧ ∀ p, H2 p = none → Q (.ref p) (upd H2 p (.lst xs.reverse))) ∨ (∃ a xs, x = .ref a ∧ SqT K H2 a xs ∧ ∀ p, H2 p = none → Q (.ref p) (upd H2 p (.tup xs.reverse))))
theorem pe_rev (he : PE X e te) (hs : PO X (some st) ts) : PE X (.Subscript e (.Slice none none (some st) p2) pos) (tRev X.K te ts) := by
  refine ⟨fun pins s σ H Q I h => ?_⟩
  refine Subscript_ (thn (he.run pins s σ H _ I h) fun v s1 ⟨x, H1, I1, r1, q1⟩ => ?_)
  refine wpAny_Slice ?_
  rw [evalPart_none]
  refine wpAny_pure ?_
  refine wpAny_pure ?_
  refine thn (hs.run pins s1 σ H1 _ I1 q1) fun vs s3 ⟨o, H3, I3, ps, q3⟩ => ?_
  obtain ⟨rfl, q3⟩ := q3
  have I4 : Inv X pins σ H3 { s3 with heap := s3.heap.push { cls := .type "slice", data := .fields #[.none, .none, vs] } } := I3.kept (t' := s3.toks) fun b ob q => Heap.get?_push_of_some _ q
  have hsl : ({ s3 with heap := s3.heap.push { cls := .type "slice", data := .fields #[.none, .none, vs] } } : Shared).heap.IsSliceOf s3.heap.objs.size .none .none vs := Heap.IsSliceOf.new ..
  show wpAny (model X.prog X.w) X.A (subscriptTail e (.Slice none none (some st) p2) v (.ref s3.heap.objs.size)) (EP X pins σ Q) X.xe { s3 with heap := s3.heap.push { cls := .type "slice", data := .fields #[.none, .none, vs] } }
  generalize ({ s3 with heap := s3.heap.push { cls := .type "slice", data := .fields #[.none, .none, vs] } } : Shared) = s4 at I4 hsl ⊢
  rcases q3 with ⟨a, xs, rfl, hx, q⟩ | ⟨a, xs, rfl, hx, q⟩
  · cases r1
    obtain ⟨its, r, ht, hz⟩ := I4.list hx
    refine tail_any (ops := [.ref a, .ref s3.heap.objs.size]) ht.isList.typeIs slot_list_getitem.lookup ?_ (by with_unfolding_all rfl)
    have hlen := r.length
    refine wpAny_getItem_list_slice ht.isList hsl .none .none ps (by decide) ?_ (by rw [List.size_toArray] <;> omega)
    rw [PySem.W.krv_pick]
    refine ⟨.ref s4.heap.objs.size, _, I4.laid (t' := s4.toks) (o := .lst xs.reverse) (fun b ob q => Heap.get?_push_of_some _ q) (Nat.le_refl _) ?_, rfl, q _ (I4.hok.fresh (Nat.le_refl _))⟩
    exact ⟨by rw [List.length_reverse]; exact hz, _, 0, r.reverse, Heap.get?_push_size _ rfl⟩
  · cases r1
    obtain ⟨its, r, ht, hz⟩ := I4.tuple hx
    refine tail_any (ops := [.ref a, .ref s3.heap.objs.size]) ht.typeIs PyProof.Rows.slot_tuple_getitem.lookup ?_ (by with_unfolding_all rfl)
    refine getItem_tuple_rev ht hsl ps ?_ (by rw [List.size_toArray, ← r.length]; exact hz)
    refine ⟨.ref s4.heap.objs.size, _, I4.laid (t' := s4.toks) (o := .tup xs.reverse) (fun b ob q => Heap.get?_push_of_some _ q) (Nat.le_refl _) ?_, rfl, q _ (I4.hok.fresh (Nat.le_refl _))⟩
    exact ⟨by rw [List.length_reverse]; exact hz, _, r.reverse, IsTup.new _ _⟩
end
section
variable {X : Sx} {W : WD} {C : Cx} {a : Expr} {fa : Env → M D} {pos : Pos}
theorem dx_rev {st : Expr} {fs : Env → M (Option Int)} {p2 : Pos} (hK : X.K = C.K) (ha : PE C a (tT X W fa)) (hs : PO C (some st) (tO X W fs)) :
    PE C (.Subscript a (.Slice none none (some st) p2) pos) (tD X W fun env => (fa env).bind fun x => (fs env).bind fun o => revO x o) := by
  refine (pe_rev ha hs).weak fun σ H Q ⟨R, env, sto, S, E, o⟩ => ?_
  refine useT S E o fun v H1 R1 d s1 g1 S1 E1 r1 o1 => ?_
  have o1 : Out (wE X W R1 H1 σ) (((fs env).bind fun o => revO d o) s1) _ := o1.imp (fun _ _ q => q) (wE_on g1)
  refine useO S1 E1 o1 fun l H2 R2 s2 g2 S2 E2 o2 => ?_
  have g12 := g1.trans g2
  have r2 := r1.grow g2
  unfold revO at o2
  split at o2
  · split at o2
    · rename_i i hi
      refine ⟨by rw [hi], ?_⟩
      split at o2
      · obtain ⟨p, vs, rfl, hp, rs⟩ := r2.tup S2
        have q := Out.pure o2
        exact .inr ⟨p, vs, rfl, hK ▸ hp, fun p' hp' => new_val S2 hp' (fun R' le e => .tup e (Reps.mono le _ rs.reverse)) fun v H' R' g' S' r' => q v H' R' (g12.trans g') S' r'⟩
      · obtain ⟨p, vs, rfl, hp, rs⟩ := r2.lst S2
        have q := Out.pure o2
        exact .inl ⟨p, vs, rfl, .of hp, fun p' hp' => new_val S2 hp' (fun R' le e => .lst e (Reps.mono le _ rs.reverse)) fun v H' R' g' S' r' => q v H' R' (g12.trans g') S' r'⟩
      · exact o2.elim
    · exact o2.elim
  · exact o2.elim
end
end Bc

set_option linter.all false
set_option autoImplicit false
set_option maxRecDepth 100000
set_option maxHeartbeats 1000000
namespace Bc
open PySem PySem.Spec L2

/-- an exception in the air: its class, its own dict -/
def ExcAt (X : Sx) (R : Rl) (c : Nat) (fs : List (Nat × D)) (cls : Value) (d : Option Addr) : Prop := cls = X.xc c ∧ (fs = [] ∨ ∃ a vs, d = some a ∧ R.Fz a = some (.xd vs) ∧ Repf X R vs fs)
def wX (X : Sx) (Wx : L2.WX) : WD := fun c fs s σ H R => ∀ cls d, ExcAt X R c fs cls d → Wx cls d σ H
/-- what a def promises -/
def spF (X : Sx) (g : List D → M D) : Sp := fun vs H Q E => ∃ R sto ds, StOk X R H sto ∧ Reps X R vs ds ∧
  Out (fun c fs s => ∀ H' R', Grow R H R' H' → StOk X R' H' s → ∀ cls d, ExcAt X R' c fs cls d → E cls d H') (g ds sto) fun d s' => ∀ v H' R', Grow R H R' H' → StOk X R' H' s' → Rep X R' v d → Q v H'

section
variable {X : Sx} {C : Cx} {Wx : L2.WX} {W : WD} {k n : Nat} {f : Addr} {fd : FuncData} {ps : List Str} {g : List D → M D} {x : Str} {p pos : Pos} {e : Expr} {es : List Expr} {fs : Env → M (List D)}
theorem call_read (hW : ∀ c fs s σ H R, W c fs s σ H R → wX X Wx c fs s σ H R) {σ : L2.St} {H : Hp} {Q : VK} (h : tD X W (fun env => (fs env).bind g) σ H Q) : tCallS (spF X g) (WE Wx) (tDs X W fs) σ H Q := by
  obtain ⟨R, env, sto, S, E, o⟩ := h
  refine useDs S E o fun vs H1 R1 ds s1 g1 S1 E1 r1 o1 => ⟨R1, s1, ds, S1, r1, o1.imp (fun d s' q v H' R' g' S' r' => q v H' R' (g1.trans g') S' r') fun c fs s w H' R' g' S' => hW _ _ _ _ _ _ (w H' R' (g1.trans g') S')⟩
theorem dx_call (F : FnOk C.prog C.w C.K C.mg C.base (L2.CX C.prog C.w) k f fd ps (spF X g)) (hr : Room k C.A) (hg : Gl C x) (hm : C.mg x = some (.ref f)) (hk : PySem.W.keepIn C.K (.ref f) = true) (hb : Binds C.K fd ps []) (tk : Takes C Wx) (hW : ∀ c fs s σ H R, W c fs s σ H R → wX X Wx c fs s σ H R)
    (ha : PA C (e :: es) (tDs X W fs)) (hdb : (x == ("__debug__" : Str)) = false) (he : starEach (e :: es) C.env = (false, eval e C.env) :: starEach es C.env) (hpl : (backTo pos (starEach es C.env)).any (·.1) = false) :
    PE C (.Call (.Name x p) (e :: es) [] pos) (tD X W fun env => (fs env).bind g) :=
  (pe_callS F hr hg hm hk hb (fun σ => passAt tk σ) ha hdb he hpl).weak fun σ H Q h => call_read hW h

/-! ### arguments that are lent -/
def lend (R : Rl) (H : Hp) : Rl := { R with Bz := fun a => if a ∈ R.mu then none else H a }
theorem lend_le {R : Rl} {H : Hp} {sto : Sto} (S : StOk X R H sto) : RLe R (lend R H) := by
  refine ⟨HLe.refl _, fun a o e => ?_, fun _ _ e => e⟩
  show (if a ∈ R.mu then none else H a) = some o
  rw [if_neg, S.bz a o e]
  intro m
  rw [(S.notmu m).2] at e; cases e
theorem lend_st {R : Rl} {H : Hp} {sto : Sto} (S : StOk X R H sto) : StOk X (lend R H) H sto := by
  refine ⟨S.fz, fun a o e => ?_, S.len, S.nd, fun n a ds e1 e2 => ?_⟩
  · have e : (if a ∈ R.mu then none else H a) = some o := e
    split at e
    · cases e
    · exact e
  · obtain ⟨h1, h2, h3, h4⟩ := S.at_ n a ds e1 e2
    exact ⟨h1, if_pos (List.mem_of_getElem? e1), h3, h4⟩
theorem lend_rep {R : Rl} {H : Hp} {sto : Sto} {v : V} {d : D} (S : StOk X R H sto) (r : RepT X R H v d) : Rep X (lend R H) v d := by
  rcases r with r | ⟨a, vs, ds, rfl, rfl, e, m, r⟩
  · exact r.mono (lend_le S)
  · refine .bor ?_ (Reps.mono (lend_le S) _ r)
    show (if a ∈ R.mu then none else H a) = _
    rw [if_neg m, e]
theorem lend_reps {R : Rl} {H : Hp} {sto : Sto} (S : StOk X R H sto) : ∀ {vs : List V} {ds : List D}, RepTs X R H vs ds → Reps X (lend R H) vs ds
  | _, _, .nil => .nil
  | _, _, .cons r t => .cons (lend_rep S r) (lend_reps S t)
theorem lend_back {R R' : Rl} {H H' : Hp} {sto s' : Sto} (S : StOk X R H sto) (g : Grow (lend R H) H R' H') (S' : StOk X R' H' s') :
    Grow R H { R' with Bz := R.Bz } H' ∧ StOk X { R' with Bz := R.Bz } H' s' := by
  have bn : ∀ a, a ∈ R'.mu → R.Bz a = none := fun a m => by
    rcases g.muN a m with z | z
    · exact (S.notmu z).2
    · cases q : R.Bz a with
      | none => rfl
      | some o => rw [S.bz a o q] at z; cases z
  refine ⟨⟨⟨g.le.fz, HLe.refl _, g.le.mu⟩, rfl, fun a o e m => g.kept a o e m, g.muN, g.there⟩, ⟨S'.fz, fun a o e => ?_, S'.len, S'.nd, fun n a ds e1 e2 => ?_⟩⟩
  · have m : a ∉ R.mu := fun z => by rw [(S.notmu z).2] at e; cases e
    exact (g.kept a o (S.bz a o e) m).1
  · obtain ⟨h1, h2, h3, h4⟩ := S'.at_ n a ds e1 e2
    exact ⟨h1, bn a (List.mem_of_getElem? e1), h3, h4⟩
theorem callB_read {σ : L2.St} {H : Hp} {Q : VK} (h : tD X W (fun env => (fs env).bind fun ds => (noX (g ds)).bind fun d => (need (nob d)).bind fun _ => M.pure d) σ H Q) : tCallS (spF X g) (WE Wx) (tTs X W fs) σ H Q := by
  obtain ⟨R, env, sto, S, E, o⟩ := h
  refine useTs S E o fun vs H1 R1 ds s1 g1 S1 E1 r1 o1 => ⟨lend R1 H1, s1, ds, lend_st S1, lend_reps S1 r1, (Out.noX (Out.bind o1)).imp (fun d s' q v H' R' g' S' r' => ?_) fun c fs s w => w⟩
  obtain ⟨nb, q⟩ := q.needB
  obtain ⟨g2, S2⟩ := lend_back S1 g' S'
  exact Out.pure q v H' _ (g1.trans g2) S2 (r'.nob R1.Bz d nb)
theorem dx_callB (F : FnOk C.prog C.w C.K C.mg C.base (L2.CX C.prog C.w) k f fd ps (spF X g)) (hr : Room k C.A) (hg : Gl C x) (hm : C.mg x = some (.ref f)) (hk : PySem.W.keepIn C.K (.ref f) = true) (hb : Binds C.K fd ps []) (tk : Takes C Wx) (hW : ∀ c fs s σ H R, W c fs s σ H R → wX X Wx c fs s σ H R)
    (ha : PA C (e :: es) (tTs X W fs)) (hdb : (x == ("__debug__" : Str)) = false) (he : starEach (e :: es) C.env = (false, eval e C.env) :: starEach es C.env) (hpl : (backTo pos (starEach es C.env)).any (·.1) = false) :
    PE C (.Call (.Name x p) (e :: es) [] pos) (tD X W fun env => (fs env).bind fun ds => (noX (g ds)).bind fun d => (need (nob d)).bind fun _ => M.pure d) :=
  (pe_callS F hr hg hm hk hb (fun σ => passAt tk σ) ha hdb he hpl).weak fun σ H Q h => callB_read h
end
end Bc

set_option linter.all false
set_option autoImplicit false
set_option maxRecDepth 100000
set_option maxHeartbeats 1000000
namespace Bc
open PySem PySem.Spec L2

/-! ### what an assignment leaves -/
mutual
def tvs : T → List Nat
  | .nm i => [i]
  | .tp ts => tvss ts
  | .sub _ _ => []
def tvss : Ts → List Nat
  | .nil => []
  | .cons t r => tvs t ++ tvss r
end
def NotOwn (env : Env) (i : Nat) : Prop := ∀ s, env[i]? = some s → isOwn s = false
theorem notOwn_set {env : Env} {i j : Nat} {d : D} (h : i = j ∨ NotOwn env j) : NotOwn (env.set i (.val d)) j := by
  intro s e
  by_cases q : i = j
  · subst q
    rw [List.getElem?_set] at e
    split at e
    · split at e
      · cases e; rfl
      · cases e
    · exact absurd rfl ‹¬ _›
  · rw [List.getElem?_set_ne q] at e
    exact (h.resolve_left q) s e
mutual
theorem asgT_own {cl : Cl} : ∀ {t : T} {d : D} {env : Env} {s : Sto} {env' : Env} {s' : Sto}, asgT cl t d env s = .ok (env', s') → ∀ i, (i ∈ tvs t ∨ NotOwn env i) → NotOwn env' i
  | .nm j, d, env, s, env', s', h, i, hi => by
    unfold asgT at h
    split at h
    · cases h
      refine notOwn_set ?_
      rcases hi with hi | hi
      · left; simp [tvs] at hi; exact hi.symm
      · exact .inr hi
    · cases h
  | .tp ts, d, env, s, env', s', h, i, hi => by
    unfold asgT at h
    split at h
    · exact asgTs_own h i hi
    · exact asgTs_own h i hi
    · cases h
  | .sub a k, d, env, s, env', s', h, i, hi => by
    unfold asgT at h
    obtain ⟨x, s1, _, h⟩ := bind_ok h
    obtain ⟨y, s2, _, h⟩ := bind_ok h
    obtain ⟨z, s3, _, h⟩ := bind_ok h
    cases h
    rcases hi with hi | hi
    · simp [tvs] at hi
    · exact hi
theorem asgTs_own {cl : Cl} : ∀ {ts : Ts} {ds : List D} {env : Env} {s : Sto} {env' : Env} {s' : Sto}, asgTs cl ts ds env s = .ok (env', s') → ∀ i, (i ∈ tvss ts ∨ NotOwn env i) → NotOwn env' i
  | .nil, ds, env, s, env', s', h, i, hi => by
    unfold asgTs at h
    split at h
    · cases h
      rcases hi with hi | hi
      · simp [tvss] at hi
      · exact hi
    · cases h
  | .cons t r, ds, env, s, env', s', h, i, hi => by
    unfold asgTs at h
    split at h
    · obtain ⟨env1, s1, h1, h⟩ := bind_ok h
      refine asgTs_own h i ?_
      rcases hi with hi | hi
      · simp [tvss] at hi
        rcases hi with hi | hi
        · exact .inr (asgT_own h1 i (.inl hi))
        · exact .inl hi
      · exact .inr (asgT_own h1 i (.inr hi))
    · cases h
end
theorem noX_exc {α : Type} {m : M α} {s : Sto} {c fs s'} (h : noX m s = .exc c fs s') : False := by
  unfold noX at h
  split at h <;> cases h
theorem bind_exc {α β : Type} {m : M α} {f : α → M β} {s : Sto} {c fs s'} (h : (m.bind f) s = .exc c fs s') : m s = .exc c fs s' ∨ ∃ a s1, m s = .ok (a, s1) ∧ f a s1 = .exc c fs s' := by
  unfold M.bind at h
  cases e : m s with
  | ok p => rw [e] at h; exact .inr ⟨p.1, p.2, rfl, h⟩
  | exc _ _ _ => rw [e] at h; cases h; exact .inl rfl
  | stuck => rw [e] at h; cases h
theorem setSub_exc {x k v : D} {s : Sto} {c fs s'} (h : setSub x k v s = .exc c fs s') : False := by
  cases x <;> try (cases h; done)
  cases k <;> try (cases h; done)
  rename_i n i
  have h : (match s[n]? with
    | some xs => (match L2.ixN xs.length i with
      | some j => if nob v then R.ok ((), s.set n (xs.set j v)) else R.stuck
      | none => R.stuck)
    | none => R.stuck) = R.exc c fs s' := h
  split at h
  · split at h
    · split at h <;> cases h
    · cases h
  · cases h
mutual
theorem asgT_exc {cl : Cl} : ∀ {t : T} {d : D} {env : Env} {s : Sto} {c fs s'}, asgT cl t d env s = .exc c fs s' → False
  | .nm j, d, env, s, c, fs, s', h => by
    unfold asgT at h
    split at h <;> cases h
  | .tp ts, d, env, s, c, fs, s', h => by
    unfold asgT at h
    split at h
    · exact asgTs_exc h
    · exact asgTs_exc h
    · cases h
  | .sub a k, d, env, s, c, fs, s', h => by
    unfold asgT at h
    rcases bind_exc h with h | ⟨x, s1, _, h⟩
    · exact noX_exc h
    rcases bind_exc h with h | ⟨y, s2, _, h⟩
    · exact noX_exc h
    rcases bind_exc h with h | ⟨z, s3, _, h⟩
    · exact setSub_exc h
    · cases h
theorem asgTs_exc {cl : Cl} : ∀ {ts : Ts} {ds : List D} {env : Env} {s : Sto} {c fs s'}, asgTs cl ts ds env s = .exc c fs s' → False
  | .nil, ds, env, s, c, fs, s', h => by
    unfold asgTs at h
    split at h <;> cases h
  | .cons t r, ds, env, s, c, fs, s', h => by
    unfold asgTs at h
    split at h
    · rcases bind_exc h with h | ⟨x, s1, _, h⟩
      · exact asgT_exc h
      · exact asgTs_exc h
    · cases h
end

/-! ### statements -/
def FreshOwn (H0 : Hp) (σ : L2.St) (env : Env) : Prop := ∀ (i : Nat) (s : Slot) (a : Addr), env[i]? = some s → isOwn s = true → σ[i]? = some (some (.ref a)) → H0 a = none
structure At (X : Sx) (R0 : Rl) (H0 : Hp) (R : Rl) (H : Hp) (sto : Sto) (σ : L2.St) (env : Env) : Prop where
  g : Grow R0 H0 R H
  S : StOk X R H sto
  E : EnvOk X R H σ env
  fr : FreshOwn H0 σ env
theorem At.grow {X : Sx} {R0 R R' : Rl} {H0 H H' : Hp} {sto s' : Sto} {σ : L2.St} {env : Env} (A : At X R0 H0 R H sto σ env) (g : Grow R H R' H') (S : StOk X R' H' s') : At X R0 H0 R' H' s' σ env :=
  ⟨A.g.trans g, S, A.E.grow g, A.fr⟩
def wS (X : Sx) (W : WD) (R0 : Rl) (H0 : Hp) (R : Rl) : Nat → List (Nat × D) → Sto → Prop := fun c fs s => ∀ σ H' R', Grow R0 H0 R' H' → RLe R R' → StOk X R' H' s → W c fs s σ H' R'
def endS (X : Sx) (R0 : Rl) (H0 : Hp) (R : Rl) (D : Ends) : Fl × Env → Sto → Prop
  | (.nx, env), s => ∀ σ H' R', At X R0 H0 R' H' s σ env → RLe R R' → D.nx σ H'
  | (.ct, env), s => ∀ σ H' R', At X R0 H0 R' H' s σ env → RLe R R' → D.ct σ H'
  | (.bk, env), s => ∀ σ H' R', At X R0 H0 R' H' s σ env → RLe R R' → D.bk σ H'
  | (.rt d, _), s => ∀ v H' R', Grow R0 H0 R' H' → RLe R R' → StOk X R' H' s → Rep X R' v d → D.rt v H'
def tS (X : Sx) (W : WD) (R0 : Rl) (H0 : Hp) (f : Env → M (Fl × Env)) : TS := fun D σ H => ∃ R env sto, At X R0 H0 R H sto σ env ∧ Out (wS X W R0 H0 R) (f env sto) (endS X R0 H0 R D)

section
variable {X : Sx} {W : WD} {C : Cx} {R0 R R1 : Rl} {H0 H H1 : Hp} {cl : Cl} {w : Nat} {De : Ends} {σ : L2.St} {env : Env} {sto s1 : Sto}
theorem wS_on (le : RLe R R1) : ∀ c fs s, wS X W R0 H0 R c fs s → wS X W R0 H0 R1 c fs s := fun _ _ _ k σ H' R' g le' S => k σ H' R' g (le.trans le') S
theorem wS_wE (g : Grow R0 H0 R H) : ∀ c fs s, wS X W R0 H0 R c fs s → wE X W R H σ c fs s := fun _ _ _ k H' R' g' S' => k σ H' R' (g.trans g') g'.le S'
theorem endS_on (le : RLe R R1) : ∀ (p : Fl × Env) s, endS X R0 H0 R De p s → endS X R0 H0 R1 De p s
  | (.nx, env), s, k => fun σ H' R' A le' => k σ H' R' A (le.trans le')
  | (.ct, env), s, k => fun σ H' R' A le' => k σ H' R' A (le.trans le')
  | (.bk, env), s, k => fun σ H' R' A le' => k σ H' R' A (le.trans le')
  | (.rt d, _), s, k => fun v H' R' g le' S r => k v H' R' g (le.trans le') S r
/-- a permanent value within a statement -/
theorem useSD {β : Type} {fa : Env → M D} {g : D → M β} {k : β → Sto → Prop} {Kx : VK} (A : At X R0 H0 R H sto σ env) (h : Out (wS X W R0 H0 R) (((fa env).bind g) sto) k)
    (hk : ∀ v H1 R1 d s1, Grow R H R1 H1 → At X R0 H0 R1 H1 s1 σ env → Rep X R1 v d → Out (wS X W R0 H0 R1) (g d s1) k → Kx v H1) : tD X W fa σ H Kx :=
  ⟨R, env, sto, A.S, A.E, (Out.bind h).imp (fun d s q v H' R' g' S' r => hk v H' R' d s g' (A.grow g' S') r (q.imp (fun _ _ z => z) (wS_on g'.le))) (wS_wE A.g)⟩
theorem useST {β : Type} {fa : Env → M D} {g : D → M β} {k : β → Sto → Prop} {Kx : VK} (A : At X R0 H0 R H sto σ env) (h : Out (wS X W R0 H0 R) (((fa env).bind g) sto) k)
    (hk : ∀ v H1 R1 d s1, Grow R H R1 H1 → At X R0 H0 R1 H1 s1 σ env → RepT X R1 H1 v d → Out (wS X W R0 H0 R1) (g d s1) k → Kx v H1) : tT X W fa σ H Kx :=
  ⟨R, env, sto, A.S, A.E, (Out.bind h).imp (fun d s q v H' R' g' S' r => hk v H' R' d s g' (A.grow g' S') r (q.imp (fun _ _ z => z) (wS_on g'.le))) (wS_wE A.g)⟩
theorem useSDs {β : Type} {fa : Env → M (List Bc.D)} {g : List Bc.D → M β} {k : β → Sto → Prop} {Kx : List V → Hp → Prop} (A : At X R0 H0 R H sto σ env) (h : Out (wS X W R0 H0 R) (((fa env).bind g) sto) k)
    (hk : ∀ v H1 R1 d s1, Grow R H R1 H1 → At X R0 H0 R1 H1 s1 σ env → Reps X R1 v d → Out (wS X W R0 H0 R1) (g d s1) k → Kx v H1) : tDs X W fa σ H Kx :=
  ⟨R, env, sto, A.S, A.E, (Out.bind h).imp (fun d s q v H' R' g' S' r => hk v H' R' d s g' (A.grow g' S') r (q.imp (fun _ _ z => z) (wS_on g'.le))) (wS_wE A.g)⟩
theorem useSB {β : Type} {fa : Env → M Bool} {g : Bool → M β} {k : β → Sto → Prop} {Kx : Bool → Hp → Prop} (A : At X R0 H0 R H sto σ env) (h : Out (wS X W R0 H0 R) (((fa env).bind g) sto) k)
    (hk : ∀ b H1 R1 s1, Grow R H R1 H1 → At X R0 H0 R1 H1 s1 σ env → Out (wS X W R0 H0 R1) (g b s1) k → Kx b H1) : tB X W fa σ H Kx :=
  ⟨R, env, sto, A.S, A.E, (Out.bind h).imp (fun d s q H' R' g' S' => hk d H' R' s g' (A.grow g' S') (q.imp (fun _ _ z => z) (wS_on g'.le))) (wS_wE A.g)⟩
theorem ret_val {d : Bc.D} {v : V} (A : At X R0 H0 R1 H1 s1 σ env) (le : RLe R R1) (r : Rep X R1 v d) {env' : Env} (o : endS X R0 H0 R De (.rt d, env') s1) : De.rt v H1 := o v H1 R1 A.g le A.S r

theorem dt_pass {pos : Pos} : PS C (.Pass pos) (tS X W R0 H0 (evS cl w .pass)) := ps_pass.weak fun De σ H ⟨R, env, sto, A, o⟩ => Out.pure o σ H R A (RLe.refl _)
theorem dt_brk {pos : Pos} : PS C (.Break pos) (tS X W R0 H0 (evS cl w .brk)) := ps_break.weak fun De σ H ⟨R, env, sto, A, o⟩ => Out.pure o σ H R A (RLe.refl _)
theorem dt_cont {pos : Pos} : PS C (.Continue pos) (tS X W R0 H0 (evS cl w .cont)) := ps_continue.weak fun De σ H ⟨R, env, sto, A, o⟩ => Out.pure o σ H R A (RLe.refl _)
theorem dt_retN {pos : Pos} : PS C (.Return none pos) (tS X W R0 H0 (evS cl w .retN)) := ps_retN.weak fun De σ H ⟨R, env, sto, A, o⟩ => Out.pure o .non H R A.g (RLe.refl _) A.S .non
theorem dt_ret {e : Expr} {f : E} {pos : Pos} (h : PE C e (tD X W (evE cl f))) : PS C (.Return (some e) pos) (tS X W R0 H0 (evS cl w (.ret f))) :=
  (ps_ret h).weak fun De σ H ⟨R, env, sto, A, o⟩ => useSD A (by unfold evS at o; exact o) fun v H1 R1 d s1 g1 A1 r1 o1 => ret_val A1 g1.le r1 (Out.pure o1)
theorem dt_expr {e : Expr} {f : E} {pos : Pos} (h : PE C e (tD X W (evE cl f))) (hs : swapsWith e none pos.line C.env = pure false) : PS C (.Expr e pos) (tS X W R0 H0 (evS cl w (.expr f))) :=
  (ps_expr h hs).weak fun De σ H ⟨R, env, sto, A, o⟩ => useSD (k := endS X R0 H0 R De) (g := fun _ => M.pure (Fl.nx, env)) A (by unfold evS at o; exact o) fun v H1 R1 d s1 g1 A1 r1 o1 => (show endS X R0 H0 R De (.nx, env) s1 from o1) σ H1 R1 A1 g1.le
theorem dt_doc {x : Str} {j : Nat} {pos pos' : Pos} : PS C (.Expr (.Constant (.str x) j pos) pos') (tS X W R0 H0 (evS cl w .pass)) := ps_doc.weak fun De σ H ⟨R, env, sto, A, o⟩ => Out.pure o σ H R A (RLe.refl _)
theorem At.asg {env' : Env} {σ' : L2.St} {R' : Rl} {H' : Hp} {s' : Sto} {ns : List Nat} (A : At X R0 H0 R H sto σ env) (g : Grow R H R' H') (S : StOk X R' H' s') (E : EnvOk X R' H' σ' env') (k1 : ∀ i, i ∉ ns → σ'[i]? = σ[i]?) (k2 : ∀ i, i ∉ ns → env'[i]? = env[i]?)
    (no : ∀ i, i ∈ ns → NotOwn env' i) : At X R0 H0 R' H' s' σ' env' := by
  refine ⟨A.g.trans g, S, E, fun i s a e1 e2 e3 => ?_⟩
  have hi : i ∉ ns := fun z => by rw [no i z s e1] at e2; cases e2
  rw [k2 i hi] at e1
  rw [k1 i hi] at e3
  exact A.fr i s a e1 e2 e3
/-- the store of an assignment -/
theorem asg_read {t : T} {d : Bc.D} {v : V} {k : Env → Sto → Prop} {Q : L2.St → Hp → Prop} (A : At X R0 H0 R H sto σ env) (r : Rep X R v d) (o : Out (wS X W R0 H0 R) (asgT cl t d env sto) k)
    (hk : ∀ env' s' σ' H' R', k env' s' → Grow R H R' H' → At X R0 H0 R' H' s' σ' env' → Q σ' H') : tG X (tvs t) (asgT cl t) v σ H Q := by
  refine ⟨R, env, sto, d, A.S, A.E, r, ?_⟩
  cases e : asgT cl t d env sto with
  | exc c fs s => exact (asgT_exc e).elim
  | stuck => rw [e] at o; exact o
  | ok p =>
    obtain ⟨env', s'⟩ := p
    rw [e] at o
    exact fun σ' H' R' g' S' E' k1 k2 => hk env' s' σ' H' R' o g' (A.asg g' S' E' k1 k2 fun i hi => asgT_own e i (.inl hi))
theorem dt_asg {tg e : Expr} {t : T} {f : E} {pos : Pos} (h : PE C e (tD X W (evE cl f))) (hg : PG C tg (tG X (tvs t) (asgT cl t))) (hs : swapsWithSole [tg] e pos.line C.env = pure false) (hw : swappedStores [tg] e C.env = pure none)
    (h1 : (assignEach [tg] C.env).map (·.2) = [assign tg C.env]) : PS C (.Assign [tg] e pos) (tS X W R0 H0 (evS cl w (.asg t f))) := by
  refine (ps_asg h hg hs hw h1).weak fun De σ H ⟨R, env, sto, A, o⟩ => ?_
  unfold evS at o
  refine useSD A o fun v H1 R1 d s1 g1 A1 r1 o1 => ?_
  exact asg_read A1 r1 (Out.bind o1) fun env' s' σ' H' R' q g' A' => Out.pure q σ' H' R' A' (g1.le.trans g'.le)
theorem dt_if {c : Expr} {a b : List Stmt} {fc : E} {sa sb : Ss} {pos : Pos} (hc : PT C c (tB X W fun env => (evE cl fc env).bind truM)) (ha : PSs C a (tS X W R0 H0 (evSs cl w sa))) (hb : PSs C b (tS X W R0 H0 (evSs cl w sb))) :
    PS C (.If c a b pos) (tS X W R0 H0 (evS cl w (.ite fc sa sb))) := by
  refine (ps_if hc ha hb).weak fun De σ H ⟨R, env, sto, A, o⟩ => ?_
  unfold evS at o
  have o : Out (wS X W R0 H0 R) ((((evE cl fc env).bind truM).bind fun k => if k then evSs cl w sa env else evSs cl w sb env) sto) (endS X R0 H0 R De) := Out.conv (by unfold M.bind; cases evE cl fc env sto <;> rfl) o
  refine useSB A o fun k H1 R1 s1 g1 A1 o1 => ?_
  cases k with
  | true => rw [if_pos rfl]; exact ⟨R1, env, s1, A1, o1.imp (endS_on g1.le) fun _ _ _ z => z⟩
  | false => rw [if_neg Bool.false_ne_true]; exact ⟨R1, env, s1, A1, o1.imp (endS_on g1.le) fun _ _ _ z => z⟩
theorem dt_nil : PSs C [] (tS X W R0 H0 (evSs cl w .nil)) := pss_nil.weak fun De σ H ⟨R, env, sto, A, o⟩ => Out.pure o σ H R A (RLe.refl _)
theorem dt_cons {st : Stmt} {sts : List Stmt} {s : S} {r : Ss} (h : PS C st (tS X W R0 H0 (evS cl w s))) (hr : PSs C sts (tS X W R0 H0 (evSs cl w r))) : PSs C (st :: sts) (tS X W R0 H0 (evSs cl w (.cons s r))) := by
  refine (pss_cons h hr).weak fun De σ H ⟨R, env, sto, A, o⟩ => ?_
  unfold evSs at o
  refine ⟨R, env, sto, A, (Out.bind o).imp (fun p s1 o1 => ?_) fun _ _ _ z => z⟩
  obtain ⟨fl, env1⟩ := p
  cases fl with
  | nx => exact fun σ' H' R' A' le => ⟨R', env1, s1, A', o1.imp (endS_on le) (wS_on le)⟩
  | rt d => exact (show endS X R0 H0 R De (.rt d, env1) s1 from o1)
  | bk => exact (show endS X R0 H0 R De (.bk, env1) s1 from o1)
  | ct => exact (show endS X R0 H0 R De (.ct, env1) s1 from o1)
end
end Bc

set_option linter.all false
set_option autoImplicit false
set_option maxRecDepth 100000
set_option maxHeartbeats 1000000
namespace Bc
open PySem PySem.Spec L2

section
variable {X : Sx} {W : WD} {C : Cx} {R0 R R1 : Rl} {H0 H H1 : Hp} {cl : Cl} {w : Nat} {De : Ends} {σ : L2.St} {env : Env} {sto s1 : Sto}
/-! ### loops -/
theorem dt_for {tg iter : Expr} {body : List Stmt} {t : T} {k : Itb} {it : Es} {b : Ss} {pos : Pos} (hp : PassesOwn (model C.prog C.w) C.A C.env C.xe) (hc : C.calm = true)
    (hi : PI C tg iter (tI X W false fun env => (evEs cl it env).bind (itD k))) (hg : PG C tg (tG X (tvs t) (asgT cl t))) (hb : PSs C body (tS X W R0 H0 (evSs cl w b))) (hs : ∀ x, foldedSetIterable iter C.env x = pure x) :
    PS C (.For tg iter body [] pos) (tS X W R0 H0 (evS cl w (.loop t k it b))) := by
  refine (ps_for hp hc hi hg hb hs).weak fun De σ H ⟨R, env, sto, A, o⟩ => ?_
  unfold evS at o
  generalize hf : (fun d env1 => (asgT cl t d env1).bind fun env2 => evSs cl w b env2) = f at o
  have o : Out (wS X W R0 H0 R) ((((evEs cl it env).bind (itD k)).bind fun items => forL f items env) sto) (endS X R0 H0 R De) := Out.conv (by unfold M.bind; cases evEs cl it env sto <;> rfl) o
  refine ⟨R, env, sto, A.S, A.E, (Out.bind o).imp (fun items s1 o1 J H1 R1 g1 S1 jok => ?_) (wS_wE A.g)⟩
  refine ⟨fun i m σ' H' => m = items.length - i ∧ i ≤ items.length ∧ ∃ R' env' s', At X R0 H0 R' H' s' σ' env' ∧ RLe R1 R' ∧ Out (wS X W R0 H0 R) (forL f (items.drop i) env' s') (endS X R0 H0 R De),
    ⟨items.length, by simp, Nat.zero_le _, R1, env, s1, A.grow g1 S1, RLe.refl _, o1⟩, ?_⟩
  rintro i m σ2 H2 ⟨rfl, hi, R2, env2, s2, A2, le2, o2⟩
  by_cases hlt : i < items.length
  · refine .inr ?_
    obtain ⟨go, yl⟩ := jok.go R2 H2 s2 i items[i] (show RLe R1 R2 from le2) A2.S (by simp [hlt])
    rw [List.drop_eq_getElem_cons hlt] at o2
    refine ⟨go, fun σ' H' => i + 1 ≤ items.length ∧ ∃ R' env' s', At X R0 H0 R' H' s' σ' env' ∧ RLe R1 R' ∧ Out (wS X W R0 H0 R) (forL f (items.drop (i + 1)) env' s') (endS X R0 H0 R De),
      fun σ' H' n => ⟨items.length - (i + 1), by omega, rfl, n⟩, fun x H3 y => ?_⟩
    obtain ⟨R3, g3, S3, r3⟩ := yl x H3 y
    unfold forL at o2
    have o3 := Out.bind o2
    rw [← hf] at o3
    have A3 := A2.grow g3 S3
    have le3 : RLe R1 R3 := le2.trans g3.le
    have leR : RLe R R3 := g1.le.trans le3
    refine asg_read A3 r3 (Out.bind (o3.imp (fun _ _ z => z) (wS_on leR))) fun env4 s4 σ4 H4 R4 o4 g4 A4 => ?_
    have leR4 := leR.trans g4.le
    have le4 := le3.trans g4.le
    refine ⟨R4, env4, s4, A4, o4.imp (fun p s5 o5 => ?_) (wS_on g4.le)⟩
    obtain ⟨fl, env5⟩ := p
    rw [hf] at o5
    cases fl with
    | nx => exact fun σ' H' R' A' le => ⟨hlt, R', env5, s5, A', le4.trans le, o5⟩
    | ct => exact fun σ' H' R' A' le => ⟨hlt, R', env5, s5, A', le4.trans le, o5⟩
    | bk => exact fun σ' H' R' A' le => (show endS X R0 H0 R De (.nx, env5) s5 from o5) σ' H' R' A' (leR4.trans le)
    | rt d => exact fun v H' R' g le S r => (show endS X R0 H0 R De (.rt d, env5) s5 from o5) v H' R' g (leR4.trans le) S r
  · refine .inl ⟨jok.stop R2 H2 s2 i (show RLe R1 R2 from le2) A2.S (by omega), ?_⟩
    rw [List.drop_eq_nil_of_le (by omega)] at o2
    exact (show endS X R0 H0 R De (.nx, env2) s2 from o2) σ2 H2 R2 A2 (g1.le.trans le2)
theorem dt_while {c : Expr} {body : List Stmt} {fc : E} {b : Ss} {pos : Pos} (hp : PassesOwn (model C.prog C.w) C.A C.env C.xe) (hc : PT C c (tB X W fun env => (evE cl fc env).bind truM)) (hb : PSs C body (tS X W R0 H0 (evSs cl w b))) :
    PS C (.While c body [] pos) (tS X W R0 H0 (evS cl w (.whil fc b))) := by
  refine (ps_while hp hc hb).weak fun De σ H ⟨R, env, sto, A, o⟩ => ?_
  unfold evS at o
  refine ⟨fun m σ' H' => ∃ R' env' s', At X R0 H0 R' H' s' σ' env' ∧ RLe R R' ∧ Out (wS X W R0 H0 R') (whileL (fun env1 => (evE cl fc env1).bind truM) (evSs cl w b) m env' s') (endS X R0 H0 R De),
    ⟨w, R, env, sto, A, RLe.refl _, o⟩, ?_⟩
  rintro m σ2 H2 ⟨R2, env2, s2, A2, le2, o2⟩
  cases m with
  | zero => exact o2.elim
  | succ m =>
    unfold whileL at o2
    refine useSB A2 o2 fun k H3 R3 s3 g3 A3 o3 => ?_
    have le3 := le2.trans g3.le
    cases k with
    | false => rw [if_neg Bool.false_ne_true]; exact (show endS X R0 H0 R De (.nx, env2) s3 from o3) σ2 H3 R3 A3 le3
    | true =>
      rw [if_pos rfl]
      rw [if_pos rfl] at o3
      refine ⟨fun σ' H' => ∃ R' env' s', At X R0 H0 R' H' s' σ' env' ∧ RLe R R' ∧ Out (wS X W R0 H0 R') (whileL (fun env1 => (evE cl fc env1).bind truM) (evSs cl w b) m env' s') (endS X R0 H0 R De),
        fun σ' H' n => ⟨m, Nat.lt_succ_self _, n⟩, R3, env2, s3, A3, (Out.bind o3).imp (fun p s5 o5 => ?_) fun _ _ _ z => z⟩
      obtain ⟨fl, env5⟩ := p
      have o5 := o5
      cases fl with
      | nx => exact fun σ' H' R' A' le => ⟨R', env5, s5, A', le3.trans le, Out.imp o5 (fun _ _ z => z) (wS_on le)⟩
      | ct => exact fun σ' H' R' A' le => ⟨R', env5, s5, A', le3.trans le, Out.imp o5 (fun _ _ z => z) (wS_on le)⟩
      | bk => exact fun σ' H' R' A' le => (show endS X R0 H0 R De (.nx, env5) s5 from o5) σ' H' R' A' (le3.trans le)
      | rt d => exact fun v H' R' g le S r => (show endS X R0 H0 R De (.rt d, env5) s5 from o5) v H' R' g (le3.trans le) S r
/-! ### stores from the right -/
theorem asgTs_nm {ts : Ts} {i : Nat} {d : Bc.D} {ds : List Bc.D} {env : Env} (s : Sto) : asgTs cl (.cons (.nm i) ts) (d :: ds) env s = if i < env.length then asgTs cl ts ds (env.set i (.val d)) s else Bc.R.stuck := by
  show ((if i < env.length then (pure (env.set i (.val d)) : M Env) else stuck).bind fun env1 => asgTs cl ts ds env1) s = _
  by_cases h : i < env.length
  · rw [if_pos h, if_pos h]; rfl
  · rw [if_neg h, if_neg h]; rfl
theorem asg1 {α : Type} {W' : Nat → List (Nat × Bc.D) → Sto → Prop} {i : Nat} {ts : Ts} {ds : List Bc.D} {env : Env} {s : Sto} {g : Env → M α} {k : α → Sto → Prop} (h : Out W' (((asgTs cl (.cons (.nm i) ts) ds env).bind g) s) k) :
    ∃ d r, ds = d :: r ∧ i < env.length ∧ Out W' (((asgTs cl ts r (env.set i (.val d))).bind g) s) k := by
  cases ds with
  | nil => exact h.elim
  | cons d r =>
    unfold M.bind at h
    rw [asgTs_nm] at h
    by_cases hi : i < env.length
    · rw [if_pos hi] at h
      exact ⟨d, r, rfl, hi, h⟩
    · rw [if_neg hi] at h; exact h.elim
theorem asg0 {α : Type} {W' : Nat → List (Nat × Bc.D) → Sto → Prop} {ds : List Bc.D} {env : Env} {s : Sto} {g : Env → M α} {k : α → Sto → Prop} (h : Out W' (((asgTs cl .nil ds env).bind g) s) k) : ds = [] ∧ Out W' (g env s) k := by
  cases ds with
  | nil => exact ⟨rfl, h⟩
  | cons d r => exact h.elim
theorem asg2 {α : Type} {W' : Nat → List (Nat × Bc.D) → Sto → Prop} {i j : Nat} {ds : List Bc.D} {env : Env} {s : Sto} {g : Env → M α} {k : α → Sto → Prop} (h : Out W' (((asgTs cl (.cons (.nm i) (.cons (.nm j) .nil)) ds env).bind g) s) k) :
    ∃ d1 d2, ds = [d1, d2] ∧ i < env.length ∧ j < env.length ∧ Out W' (g ((env.set i (.val d1)).set j (.val d2)) s) k := by
  obtain ⟨d1, r, rfl, h1, h⟩ := asg1 h
  obtain ⟨d2, r, rfl, h2, h⟩ := asg1 h
  obtain ⟨rfl, h⟩ := asg0 h
  rw [List.length_set] at h2
  exact ⟨d1, d2, rfl, h1, h2, h⟩
theorem asg3 {α : Type} {W' : Nat → List (Nat × Bc.D) → Sto → Prop} {i j l : Nat} {ds : List Bc.D} {env : Env} {s : Sto} {g : Env → M α} {k : α → Sto → Prop} (h : Out W' (((asgTs cl (.cons (.nm i) (.cons (.nm j) (.cons (.nm l) .nil))) ds env).bind g) s) k) :
    ∃ d1 d2 d3, ds = [d1, d2, d3] ∧ i < env.length ∧ j < env.length ∧ l < env.length ∧ Out W' (g (((env.set i (.val d1)).set j (.val d2)).set l (.val d3)) s) k := by
  obtain ⟨d1, r, rfl, h1, h⟩ := asg1 h
  obtain ⟨d2, r, rfl, h2, h⟩ := asg1 h
  obtain ⟨d3, r, rfl, h3, h⟩ := asg1 h
  obtain ⟨rfl, h⟩ := asg0 h
  rw [List.length_set] at h2
  rw [List.length_set, List.length_set] at h3
  exact ⟨d1, d2, d3, rfl, h1, h2, h3, h⟩
theorem At.set {i : Nat} {v : V} {d : Bc.D} (A : At X R0 H0 R H sto σ env) (hi : i < env.length) (r : Rep X R v d) : At X R0 H0 R H sto (σ.set i (some v)) (env.set i (.val d)) := by
  refine A.asg (ns := [i]) (Grow.refl _ _) A.S (A.E.setVal hi r) (fun j hj => ?_) (fun j hj => ?_) fun j hj => ?_
  · rw [List.getElem?_set_ne (fun e => hj (by simp [e]))]
  · rw [List.getElem?_set_ne (fun e => hj (by simp [e]))]
  · simp at hj
    exact notOwn_set (.inl hj.symm)
theorem tup_asg {es : Es} {ts : Ts} {env : Env} (s : Sto) : evS cl w (.asg (.tp ts) (.tup es)) env s = ((evEs cl es env).bind fun ds => (need (lenOk ds.length)).bind fun _ => (asgTs cl ts ds env).bind fun env1 => M.pure (Fl.nx, env1)) s := by
  unfold evS evE asgT
  unfold M.bind
  cases evEs cl es env s with
  | ok p =>
    dsimp only
    cases need (lenOk p.1.length) p.2 <;> rfl
  | exc _ _ _ => rfl
  | stuck => rfl
theorem dt_par {x y : Str} {a b : Expr} {i j : Nat} {es : Es} {px py pt pos : Pos} {kt k2 pt2} (hc : C.calm = true) (hN : C.N.Nodup) (hi : C.N[i]? = some x) (hj : C.N[j]? = some y) (hij : i ≠ j)
    (hx : C.env.scope.names.lookup x = some .local) (hy : C.env.scope.names.lookup y = some .local) (ha : PA C [a, b] (tDs X W (evEs cl es)))
    (hw : swappedStores [.Tuple [.Name x px, .Name y py] kt pt] (.Tuple [a, b] k2 pt2) C.env = pure (some [x, y])) (hs : swapsWithSole [.Tuple [.Name x px, .Name y py] kt pt] (.Tuple [a, b] k2 pt2) pos.line C.env = pure false) :
    PS C (.Assign [.Tuple [.Name x px, .Name y py] kt pt] (.Tuple [a, b] k2 pt2) pos) (tS X W R0 H0 (evS cl w (.asg (.tp (.cons (.nm i) (.cons (.nm j) .nil))) (.tup es)))) := by
  refine (ps_par hc hN hi hj hij hx hy ha hw hs).weak fun De σ H ⟨R, env, sto, A, o⟩ => ?_
  rw [tup_asg] at o
  refine useSDs A o fun vs H1 R1 ds s1 g1 A1 r1 o1 => ?_
  obtain ⟨_, o2⟩ := o1.needB
  obtain ⟨d1, d2, rfl, h1, h2, o3⟩ := asg2 o2
  cases r1 with | cons r1 t => cases t with | cons r2 t => cases t with | nil =>
  refine ⟨_, _, rfl, (show endS X R0 H0 R De (.nx, _) s1 from o3) _ H1 R1 ((A1.set h1 r1).set (by rw [List.length_set]; exact h2) r2) g1.le⟩
theorem dt_par3 {x y z : Str} {a b c : Expr} {i j l : Nat} {es : Es} {px py pz pt pos : Pos} {kt k2 pt2} (hc : C.calm = true) (hN : C.N.Nodup) (hi : C.N[i]? = some x) (hj : C.N[j]? = some y) (hl : C.N[l]? = some z) (hij : i ≠ j) (hil : i ≠ l) (hjl : j ≠ l)
    (hx : C.env.scope.names.lookup x = some .local) (hy : C.env.scope.names.lookup y = some .local) (hz : C.env.scope.names.lookup z = some .local) (ha : PA C [a, b, c] (tDs X W (evEs cl es)))
    (hw : swappedStores [.Tuple [.Name x px, .Name y py, .Name z pz] kt pt] (.Tuple [a, b, c] k2 pt2) C.env = pure (some [x, y, z])) (hs : swapsWithSole [.Tuple [.Name x px, .Name y py, .Name z pz] kt pt] (.Tuple [a, b, c] k2 pt2) pos.line C.env = pure false) :
    PS C (.Assign [.Tuple [.Name x px, .Name y py, .Name z pz] kt pt] (.Tuple [a, b, c] k2 pt2) pos) (tS X W R0 H0 (evS cl w (.asg (.tp (.cons (.nm i) (.cons (.nm j) (.cons (.nm l) .nil)))) (.tup es)))) := by
  refine (ps_par3 hc hN hi hj hl hij hil hjl hx hy hz ha hw hs).weak fun De σ H ⟨R, env, sto, A, o⟩ => ?_
  rw [tup_asg] at o
  refine useSDs A o fun vs H1 R1 ds s1 g1 A1 r1 o1 => ?_
  obtain ⟨_, o2⟩ := o1.needB
  obtain ⟨d1, d2, d3, rfl, h1, h2, h3, o3⟩ := asg3 o2
  cases r1 with | cons r1 t => cases t with | cons r2 t => cases t with | cons r3 t => cases t with | nil =>
  refine ⟨_, _, _, rfl, (show endS X R0 H0 R De (.nx, _) s1 from o3) _ H1 R1 (((A1.set h1 r1).set (by rw [List.length_set]; exact h2) r2).set (by rw [List.length_set, List.length_set]; exact h3) r3) g1.le⟩
end
end Bc

set_option linter.all false
set_option autoImplicit false
set_option maxRecDepth 100000
set_option maxHeartbeats 1000000
namespace Bc
open PySem PySem.Spec L2

section
variable {X : Sx} {W : WD} {C : Cx} {R0 R R1 : Rl} {H0 H H1 : Hp} {cl : Cl} {w : Nat} {De : Ends} {σ : L2.St} {env : Env} {sto s1 : Sto}
/-! ### lists of one's own -/
theorem h0_none {p : Addr} (g : Grow R0 H0 R H) (hp : H p = none) : H0 p = none := by
  cases z : H0 p with
  | none => rfl
  | some o =>
    by_cases m : p ∈ R0.mu
    · exact absurd hp (g.there p m (by rw [z]; intro q; cases q))
    · rw [(g.kept p o z m).1] at hp; cases hp
theorem EnvOk.setOwn {i : Nat} {p : Addr} {vs : List V} {ds : List Bc.D} (E : EnvOk X R H σ env) (hi : i < env.length) (e : H p = some (.lst vs)) (f : R.Fz p = none) (b : R.Bz p = none) (m : p ∉ R.mu) (r : Reps X R vs ds)
    (sep : ∀ (j : Nat) (s : Slot), j ≠ i → env[j]? = some s → isOwn s = true → σ[j]? ≠ some (some (.ref p))) : EnvOk X R H (σ.set i (some (.ref p))) (env.set i (.own ds)) := by
  refine ⟨by rw [List.length_set, List.length_set]; exact E.len, fun j s e1 => ?_, fun j k sj sk a e1 e2 o1 o2 q1 q2 => ?_⟩
  · by_cases h : i = j
    · subst h
      rw [List.getElem?_set_self hi] at e1
      cases e1
      rw [List.getElem?_set_self (by rw [E.len]; exact hi)]
      exact ⟨p, vs, rfl, e, f, b, m, r⟩
    · rw [List.getElem?_set_ne h] at e1 ⊢
      exact E.at_ j s e1
  · by_cases hj : i = j
    · by_cases hk : i = k
      · exact hj.symm.trans hk
      · subst hj
        rw [List.getElem?_set_self (by rw [E.len]; exact hi)] at q1
        cases q1
        rw [List.getElem?_set_ne hk] at e2 q2
        exact absurd q2 (sep k sk (fun z => hk z.symm) e2 o2)
    · by_cases hk : i = k
      · subst hk
        rw [List.getElem?_set_self (by rw [E.len]; exact hi)] at q2
        cases q2
        rw [List.getElem?_set_ne hj] at e1 q1
        exact absurd q1 (sep j sj (fun z => hj z.symm) e1 o1)
      · rw [List.getElem?_set_ne hj] at e1 q1
        rw [List.getElem?_set_ne hk] at e2 q2
        exact E.sep j k sj sk a e1 e2 o1 o2 q1 q2
theorem At.setOwn {i : Nat} {p : Addr} {vs : List V} {ds : List Bc.D} (A : At X R0 H0 R H sto σ env) (hi : i < env.length) (e : H p = some (.lst vs)) (f : R.Fz p = none) (b : R.Bz p = none) (m : p ∉ R.mu) (h0 : H0 p = none) (r : Reps X R vs ds)
    (sep : ∀ (j : Nat) (s : Slot), j ≠ i → env[j]? = some s → isOwn s = true → σ[j]? ≠ some (some (.ref p))) : At X R0 H0 R H sto (σ.set i (some (.ref p))) (env.set i (.own ds)) := by
  refine ⟨A.g, A.S, A.E.setOwn hi e f b m r sep, fun j s a e1 e2 e3 => ?_⟩
  by_cases h : i = j
  · subst h
    rw [List.getElem?_set_self (by rw [A.E.len]; exact hi)] at e3
    cases e3
    exact h0
  · rw [List.getElem?_set_ne h] at e1 e3
    exact A.fr j s a e1 e2 e3
/-- no slot of its own stands where nothing stood -/
theorem sep_new {p : Addr} (E : EnvOk X R H σ env) (hp : H p = none) (j : Nat) (s : Slot) (e : env[j]? = some s) (o : isOwn s = true) : σ[j]? ≠ some (some (.ref p)) := fun z => by
  have h := E.at_ j s e
  cases s with
  | own ds =>
    obtain ⟨a, vs, e1, e2, _⟩ := h
    rw [z] at e1
    cases e1
    rw [hp] at e2; cases e2
  | ownK _ => exact h.elim
  | ownT _ => exact h.elim
  | un => cases o
  | val _ => cases o
theorem mu_new {p : Addr} (S : StOk X R H sto) (hp : H p = none) : p ∉ R.mu := fun z => by
  obtain ⟨n, hn⟩ := List.getElem?_of_mem z
  have hlt : n < sto.length := by rw [← S.len]; exact (List.getElem?_eq_some_iff.mp hn).1
  obtain ⟨_, _, _, ws, e3, _⟩ := S.at_ n p sto[n] hn (by simp [hlt])
  rw [hp] at e3; cases e3
theorem bz_none {p : Addr} (S : StOk X R H sto) (hp : H p = none) : R.Bz p = none := by
  cases z : R.Bz p with
  | none => rfl
  | some o => rw [S.bz p o z] at hp; cases hp
theorem Fill.new {p : Addr} {vs : List V} {ds : List Bc.D} (S : StOk X R H sto) (hp : H p = none) (r : Reps X R vs ds) : Fill X R (upd H p (.lst vs)) p ds := ⟨⟨vs, upd_same, r⟩, fz_none S hp, bz_none S hp, mu_new S hp⟩
theorem dn_lst {es : List Expr} {f : Es} {pos : Pos} (h : PA C es (tDs X W (evEs cl f))) : PE C (.List es pos) (tN X W (evE cl (.lst f))) := by
  refine (pe_lst h).weak fun σ H Q ⟨R, env, sto, S, E, o⟩ => ?_
  unfold evE at o
  refine useDs S E o fun vs H1 R1 ds s1 g1 S1 E1 r1 o1 => ?_
  obtain ⟨hl, o2⟩ := o1.needB
  refine ⟨by rw [r1.length]; exact lenOk_line hl, fun p hp => ?_⟩
  obtain ⟨ds', e, q⟩ := Out.pure o2
  cases e
  have F := Fill.new S1 hp r1
  have h0 := h0_none g1 hp
  exact q p _ R1 (g1.at h0 (mu_new S h0)) (S1.at F.fz F.bz F.mu) h0 F
theorem dt_own {x : Str} {i : Nat} {e : Expr} {f : E} {pos pos' : Pos} (hN : C.N.Nodup) (hi : C.N[i]? = some x) (hx : Loc C.env.scope x) (he : PE C e (tN X W (evE cl f))) (hs : swapsWith e (some (.Name x pos')) pos.line C.env = pure false) (hf : C.fn x = true ∨ C.env.scope.names.lookup x = some .local) :
    PS C (.Assign [.Name x pos'] e pos) (tS X W R0 H0 (evS cl w (.asgOwn i f))) := by
  refine (ps_set hN hi hx he hs hf).weak fun De σ H ⟨R, env, sto, A, o⟩ => ?_
  unfold evS at o
  refine ⟨R, env, sto, A.S, A.E, (Out.bind o).imp (fun d s' o1 => ?_) (wS_wE A.g)⟩
  split at o1
  · rename_i xs
    refine ⟨xs, rfl, fun a H' R' g S' hn F => ?_⟩
    split at o1
    · rename_i hi'
      obtain ⟨vs, e, r⟩ := F.at_
      have q := (show endS X R0 H0 R De (.nx, env.set i (.own xs)) s' from o1)
      refine q _ H' R' ((A.grow g S').setOwn hi' e F.fz F.bz F.mu (h0_none A.g hn) r fun j s _ e1 e2 => sep_new A.E hn j s e1 e2) g.le
    · exact o1.elim
  · exact o1.elim
/-- two names at once: a value, and a list of one's own -/
theorem dt_parO {x y : Str} {a b : Expr} {i j : Nat} {e f : E} {px py pt pos : Pos} {kt k2 pt2} (hc : C.calm = true) (hN : C.N.Nodup) (hi : C.N[i]? = some x) (hj : C.N[j]? = some y) (hij : i ≠ j)
    (hx : C.env.scope.names.lookup x = some .local) (hy : C.env.scope.names.lookup y = some .local) (ha : PE C a (tD X W (evE cl e))) (hb : PE C b (tN X W (evE cl f)))
    (sa : starEach [a, b] C.env = (false, eval a C.env) :: starEach [b] C.env) (sb : starEach [b] C.env = (false, eval b C.env) :: starEach [] C.env)
    (hw : swappedStores [.Tuple [.Name x px, .Name y py] kt pt] (.Tuple [a, b] k2 pt2) C.env = pure (some [x, y])) (hs : swapsWithSole [.Tuple [.Name x px, .Name y py] kt pt] (.Tuple [a, b] k2 pt2) pos.line C.env = pure false) :
    PS C (.Assign [.Tuple [.Name x px, .Name y py] kt pt] (.Tuple [a, b] k2 pt2) pos) (tS X W R0 H0 (evS cl w (.asgTO i j e f))) := by
  refine (ps_par hc hN hi hj hij hx hy (pa_cons ha (pa_cons hb pa_nil sb) sa) hw hs).weak fun De σ H ⟨R, env, sto, A, o⟩ => ?_
  unfold evS at o
  refine ⟨R, env, sto, A.S, A.E, (Out.bind o).imp (fun d s1 o1 v H1 R1 g S1 r => ?_) (wS_wE A.g)⟩
  have A1 := A.grow g S1
  have o1 := o1.imp (endS_on g.le) (wS_on g.le)
  refine ⟨R1, env, s1, A1.S, A1.E, (Out.bind o1).imp (fun z s2 o2 => ?_) (wS_wE A1.g)⟩
  split at o2
  · rename_i xs
    refine ⟨xs, rfl, fun p H2 R2 g2 S2 hn F => ?_⟩
    split at o2
    · rename_i lt
      obtain ⟨vs, ep, rr⟩ := F.at_
      have q := (show endS X R0 H0 R1 De (.nx, (env.set i (.val d)).set j (.own xs)) s2 from o2)
      have A3 := (A1.grow g2 S2).set lt.1 (r.mono g2.le)
      refine ⟨v, .ref p, rfl, q _ H2 R2 (A3.setOwn (by rw [List.length_set]; exact lt.2) ep F.fz F.bz F.mu (h0_none A1.g hn) rr fun k s _ e1 e2 => ?_) g2.le⟩
      by_cases h : i = k
      · subst h
        rw [List.getElem?_set_self lt.1] at e1
        cases e1; cases e2
      · rw [List.getElem?_set_ne h] at e1 ⊢
        exact sep_new A1.E hn k s e1 e2
    · exact o2.elim
  · exact o2.elim
/-- .. by way of a tuple -/
theorem dt_parOG {x y : Str} {a b : Expr} {i j : Nat} {e f : E} {px py pt pos : Pos} {kt k2 pt2} (hc : C.calm = true) (hN : C.N.Nodup) (hi : C.N[i]? = some x) (hj : C.N[j]? = some y) (hij : i ≠ j)
    (hx : Loc C.env.scope x) (hy : Loc C.env.scope y) (fx : C.fn x = true ∨ C.env.scope.names.lookup x = some .local) (fy : C.fn y = true ∨ C.env.scope.names.lookup y = some .local) (ha : PE C a (tD X W (evE cl e))) (hb : PE C b (tN X W (evE cl f)))
    (sa : starEach [a, b] C.env = (false, eval a C.env) :: starEach [b] C.env) (sb : starEach [b] C.env = (false, eval b C.env) :: starEach [] C.env)
    (hw : swappedStores [.Tuple [.Name x px, .Name y py] kt pt] (.Tuple [a, b] k2 pt2) C.env = pure none) (hs : swapsWithSole [.Tuple [.Name x px, .Name y py] kt pt] (.Tuple [a, b] k2 pt2) pos.line C.env = pure false)
    (h1 : (assignEach [.Tuple [.Name x px, .Name y py] kt pt] C.env).map (·.2) = [assign (.Tuple [.Name x px, .Name y py] kt pt) C.env]) :
    PS C (.Assign [.Tuple [.Name x px, .Name y py] kt pt] (.Tuple [a, b] k2 pt2) pos) (tS X W R0 H0 (evS cl w (.asgTO i j e f))) := by
  refine (ps_asg (pe_tup (pa_cons ha (pa_cons hb pa_nil sb) sa)) (pg_tup hc (pgs_cons (pg_name hN hi hx fx) (pgs_cons (pg_name hN hj hy fy) pgs_nil rfl) rfl) rfl rfl) hs hw h1).weak fun De σ H ⟨R, env, sto, A, o⟩ => ?_
  unfold evS at o
  refine ⟨R, env, sto, A.S, A.E, (Out.bind o).imp (fun d s1 o1 v H1 R1 g S1 r => ?_) (wS_wE A.g)⟩
  have A1 := A.grow g S1
  have o1 := o1.imp (endS_on g.le) (wS_on g.le)
  refine ⟨R1, env, s1, A1.S, A1.E, (Out.bind o1).imp (fun z s2 o2 => ?_) (wS_wE A1.g)⟩
  split at o2
  · rename_i xs
    refine ⟨xs, rfl, fun p H2 R2 g2 S2 hn F => ⟨by show 2 ≤ sizeLine; decide, fun T hT => ?_⟩⟩
    split at o2
    · rename_i lt
      have gT : Grow R2 H2 R2 (upd H2 T (.tup [v, .ref p])) := (Grow.refl _ _).at hT (mu_new S2 hT)
      have S3 : StOk X R2 (upd H2 T (.tup [v, .ref p])) s2 := S2.at (fz_none S2 hT) (bz_none S2 hT) (mu_new S2 hT)
      have F3 := F.grow gT
      obtain ⟨vs, ep, rr⟩ := F3.at_
      have q := (show endS X R0 H0 R1 De (.nx, (env.set i (.val d)).set j (.own xs)) s2 from o2)
      have A3 := ((A1.grow g2 S2).grow gT S3).set lt.1 (r.mono g2.le)
      refine ⟨T, [v, .ref p], rfl, .inl (.inl upd_same), rfl, v, [.ref p], rfl, .ref p, [], rfl, rfl, ?_⟩
      refine q _ _ R2 (A3.setOwn (by rw [List.length_set]; exact lt.2) ep F3.fz F3.bz F3.mu (h0_none A1.g hn) rr fun k s _ e1 e2 => ?_) g2.le
      by_cases h : i = k
      · subst h
        rw [List.getElem?_set_self lt.1] at e1
        cases e1; cases e2
      · rw [List.getElem?_set_ne h] at e1 ⊢
        exact sep_new A1.E hn k s e1 e2
    · exact o2.elim
  · exact o2.elim
/-- a list of one's own is done with -/
theorem at_freeze {i : Nat} {ds : List Bc.D} (A : At X R0 H0 R H sto σ env) (hi : env[i]? = some (.own ds)) : ∃ R', At X R0 H0 R' H sto σ (env.set i (.val (.lst true ds))) ∧ RLe R R' := by
  obtain ⟨a, vs, ev, eh, f, b, m, r⟩ := A.E.at_ i _ hi
  have hl : i < env.length := (List.getElem?_eq_some_iff.mp hi).1
  have h0 : H0 a = none := A.fr i _ a hi rfl ev
  obtain ⟨le, g', S', r'⟩ := Fill.done2 (⟨⟨vs, eh, r⟩, f, b, m⟩ : Fill X R H a ds) eh r A.S A.g h0
  refine ⟨R.put a (.lst vs), ⟨g', S', ⟨by rw [List.length_set]; exact A.E.len, fun j s e => ?_, fun j k sj sk a' e1 e2 o1 o2 q1 q2 => ?_⟩, fun j s a' e1 e2 e3 => ?_⟩, le⟩
  · by_cases h : i = j
    · subst h
      rw [List.getElem?_set_self hl] at e
      cases e
      exact ⟨_, ev, r'⟩
    · rw [List.getElem?_set_ne h] at e
      have h1 := A.E.at_ j s e
      cases s with
      | un => trivial
      | val d =>
        obtain ⟨v, e1, r1⟩ := h1
        exact ⟨v, e1, r1.mono le⟩
      | own ds2 =>
        obtain ⟨a2, vs2, e1, e2, f2, b2, m2, r2⟩ := h1
        refine ⟨a2, vs2, e1, e2, ?_, b2, m2, Reps.mono le _ r2⟩
        rw [show (R.put a (.lst vs)).Fz a2 = R.Fz a2 from upd_ne fun z => h (A.E.sep i j _ _ a hi e rfl rfl ev (by rw [e1, z]))]
        exact f2
      | ownK _ => exact h1.elim
      | ownT _ => exact h1.elim
  · have hj : i ≠ j := fun h => by
      subst h
      rw [List.getElem?_set_self hl] at e1
      cases e1; cases o1
    have hk : i ≠ k := fun h => by
      subst h
      rw [List.getElem?_set_self hl] at e2
      cases e2; cases o2
    rw [List.getElem?_set_ne hj] at e1
    rw [List.getElem?_set_ne hk] at e2
    exact A.E.sep j k sj sk a' e1 e2 o1 o2 q1 q2
  · have hj : i ≠ j := fun h => by
      subst h
      rw [List.getElem?_set_self hl] at e1
      cases e1; cases e2
    rw [List.getElem?_set_ne hj] at e1
    exact A.fr j s a' e1 e2 e3
theorem fr_read {i : Nat} {r : Ss} (h : tS X W R0 H0 (evSs cl w (.cons (.freeze i) r)) De σ H) : tS X W R0 H0 (evSs cl w r) De σ H := by
  obtain ⟨R, env, sto, A, o⟩ := h
  unfold evSs evS at o
  have o := o
  cases e : env[i]? with
  | none => rw [e] at o; exact o.elim
  | some s =>
    rw [e] at o
    cases s with
    | own ds =>
      obtain ⟨R', A', le⟩ := at_freeze A e
      exact ⟨R', _, sto, A', (show Out (wS X W R0 H0 R) (evSs cl w r (env.set i (.val (.lst true ds))) sto) _ from o).imp (endS_on le) (wS_on le)⟩
    | ownK ds => exact (A.E.at_ i _ e).elim
    | ownT ds => exact (A.E.at_ i _ e).elim
    | un => exact o.elim
    | val _ => exact o.elim
/-- a list of one's own changes -/
theorem at_mut {i : Nat} {ds es : List Bc.D} {a : Addr} {ws : List V} (A : At X R0 H0 R H sto σ env) (hi : env[i]? = some (.own ds)) (ev : σ[i]? = some (some (.ref a))) (r : Reps X R ws es) : At X R0 H0 R (upd H a (.lst ws)) sto σ (env.set i (.own es)) := by
  obtain ⟨a', vs, ev', eh, f, b, m, r0⟩ := A.E.at_ i _ hi
  rw [ev] at ev'
  cases ev'
  have hl : i < env.length := (List.getElem?_eq_some_iff.mp hi).1
  have h0 : H0 a = none := A.fr i _ a hi rfl ev
  have m0 : a ∉ R0.mu := fun z => by
    obtain ⟨n, hn⟩ := List.getElem?_of_mem z
    exact m (List.mem_of_getElem? (A.g.le.mu n a hn))
  refine ⟨A.g.at h0 m0, A.S.at f b m, ⟨by rw [List.length_set]; exact A.E.len, fun j s e => ?_, fun j k sj sk a' e1 e2 o1 o2 q1 q2 => ?_⟩, fun j s a' e1 e2 e3 => ?_⟩
  · by_cases h : i = j
    · subst h
      rw [List.getElem?_set_self hl] at e
      cases e
      exact ⟨a, ws, ev, upd_same, f, b, m, r⟩
    · rw [List.getElem?_set_ne h] at e
      have h1 := A.E.at_ j s e
      cases s with
      | un => trivial
      | val d => exact h1
      | own ds2 =>
        obtain ⟨a2, vs2, e1, e2, f2, b2, m2, r2⟩ := h1
        refine ⟨a2, vs2, e1, ?_, f2, b2, m2, r2⟩
        rw [upd_ne fun z => h (A.E.sep i j _ _ a hi e rfl rfl ev (by rw [e1, z]))]
        exact e2
      | ownK _ => exact h1.elim
      | ownT _ => exact h1.elim
  · have own : ∀ (k : Nat) (s : Slot), (env.set i (.own es))[k]? = some s → isOwn s = true → ∃ s2, env[k]? = some s2 ∧ isOwn s2 = true := fun k s e o => by
      by_cases h : i = k
      · subst h; exact ⟨_, hi, rfl⟩
      · rw [List.getElem?_set_ne h] at e; exact ⟨s, e, o⟩
    obtain ⟨s1, e1, o1⟩ := own j sj e1 o1
    obtain ⟨s2, e2, o2⟩ := own k sk e2 o2
    exact A.E.sep j k s1 s2 a' e1 e2 o1 o2 q1 q2
  · by_cases h : i = j
    · subst h
      exact A.fr i _ a' hi rfl e3
    · rw [List.getElem?_set_ne h] at e1
      exact A.fr j s a' e1 e2 e3
theorem dt_app {x : Str} {i : Nat} {e : Expr} {f : E} {np apos cpos pos : Pos} (hN : C.N[i]? = some x) (hv : Vis C.env.scope x) (hd : (x == ("__debug__" : Str)) = false) (hcd : (x == ("__classdict__" : Str)) = false) (he : PE C e (tD X W (evE cl f)))
    (hfew : ((backTo cpos (starEach [e] C.env)).all (fun x => !x.1) && (backToKw cpos (keywordEach [] C.env)).all (fun x => x.1.isSome)
      && decide ([e].length + ([] : List Keyword).length + (if ([] : List Keyword).isEmpty then 0 else 1) < 30)) = true)
    (hline : (apos.endLine == cpos.line) = true) (hs : starEach [e] C.env = (false, eval e C.env) :: starEach [] C.env) :
    PS C (.Expr (.Call (.Attribute (.Name x np) "append" apos) [e] [] cpos) pos) (tS X W R0 H0 (evS cl w (.app i f))) := by
  refine (ps_expr (pe_bm PySem.F.plainAttrs_list PySem.F.slot_list_append PySem.F.type_list_append mt_append (pe_var hN hv hd hcd) (pa_cons he pa_nil hs) rfl hfew hline hs rfl) rfl).weak fun De σ H ⟨R, env, sto, A, o⟩ => ?_
  unfold evS at o
  have ⟨xs, hx⟩ : ∃ xs, env[i]? = some (.own xs) := by
    cases hx : env[i]? with
    | none => rw [hx] at o; exact o.elim
    | some s => cases s with
      | own xs => exact ⟨xs, rfl⟩
      | _ => rw [hx] at o; exact o.elim
  rw [hx] at o
  · obtain ⟨a, vs, ev, eh, f, b, m, r⟩ := A.E.at_ i _ hx
    refine ⟨.ref a, ev, .inl ⟨rfl, vs, .of eh⟩, useSD A o fun v H1 R1 d s1 g1 A1 r1 o1 => ?_⟩
    obtain ⟨hl, o2⟩ := o1.needB
    have eh1 := (g1.kept a _ eh m).1
    refine ⟨a, vs, v, rfl, rfl, eh1, by rw [r.length, sizeLine_eq]; exact of_decide_eq_true hl, ?_⟩
    exact (show endS X R0 H0 R De (.nx, _) s1 from o2) σ _ R1 (at_mut A1 hx ev ((Reps.mono g1.le _ r).append (.cons r1 .nil))) g1.le
theorem dt_put {x : Str} {i : Nat} {k e : Expr} {fk f : E} {np spos pos : Pos} (hN : C.N[i]? = some x) (hv : Vis C.env.scope x) (hd : (x == ("__debug__" : Str)) = false) (hcd : (x == ("__classdict__" : Str)) = false) (he : PE C e (tD X W (evE cl f))) (hk : PE C k (tT X W (evE cl fk)))
    (ha : ∀ v, assign (.Subscript (.Name x np) k spos) C.env v = (do
      let ov ← holding [v] (eval (.Name x np) C.env)
      let iv ← holding [v, ov] (eval k C.env)
      standAt spos
      holding [v, ov, iv] (setItem ov iv v)
      release [v, ov, iv] []))
    (hs : swapsWithSole [.Subscript (.Name x np) k spos] e pos.line C.env = pure false) (hw : swappedStores [.Subscript (.Name x np) k spos] e C.env = pure none) :
    PS C (.Assign [.Subscript (.Name x np) k spos] e pos) (tS X W R0 H0 (evS cl w (.put i fk f))) := by
  refine (ps_asg he (pg_sub (pe_var hN hv hd hcd) hk set_list ha) hs hw rfl).weak fun De σ H ⟨R, env, sto, A, o⟩ => ?_
  unfold evS at o
  refine useSD A o fun v H1 R1 d s1 g1 A1 r1 o1 => ?_
  have ⟨xs, hx⟩ : ∃ xs, env[i]? = some (.own xs) := by
    cases hx : env[i]? with
    | none => rw [hx] at o1; exact o1.elim
    | some s => cases s with
      | own xs => exact ⟨xs, rfl⟩
      | _ => rw [hx] at o1; exact o1.elim
  rw [hx] at o1
  · obtain ⟨a, vs, ev, eh, f, b, m, r⟩ := A1.E.at_ i _ hx
    refine ⟨.ref a, ev, useST A1 o1 fun v2 H2 R2 d2 s2 g2 A2 r2 o2 => ?_⟩
    cases d2 <;> try exact o2.elim
    · obtain ⟨n, en, o3⟩ := Out.ofOptB o2
      have eh1 := (g2.kept a _ eh m).1
      rw [r2.int]
      refine ⟨a, vs, _, n, rfl, rfl, eh1, by rw [r.length]; exact en, ?_⟩
      exact (show endS X R0 H0 R De (.nx, _) s2 from o3) σ _ R2 (at_mut A2 hx ev (Reps.set (r1.mono g2.le) n (Reps.mono g2.le _ r))) (g1.le.trans g2.le)
theorem dt_retLoc {es : List Expr} {f : Es} {lpos pos : Pos} (h : PA C es (tDs X W (evEs cl f))) : PS C (.Return (some (.List es lpos)) pos) (tS X W R0 H0 (evS cl w (.retLoc f))) := by
  refine (ps_ret (pe_lst h)).weak fun De σ H ⟨R, env, sto, A, o⟩ => ?_
  unfold evS at o
  refine useSDs A o fun vs H1 R1 ds s1 g1 A1 r1 o1 => ?_
  obtain ⟨hl, o2⟩ := o1.needB
  refine ⟨by rw [r1.length]; exact lenOk_line hl, fun p hp => ?_⟩
  have o3 := Out.bind o2
  unfold newLoc at o3
  cases nb : nobs ds with
  | false => rw [nb] at o3; exact o3.elim
  | true =>
    rw [nb, if_pos rfl] at o3
    have q := (show endS X R0 H0 R De (.rt (.loc s1.length), env) (s1 ++ [ds]) from o3)
    have h0 := h0_none A1.g hp
    have fz := fz_none A1.S hp
    have bz := bz_none A1.S hp
    have mu := mu_new A1.S hp
    have lm : ∀ (n : Nat) (a : Addr), R1.mu[n]? = some a → (R1.mu ++ [p])[n]? = some a := fun n a e => by
      rw [List.getElem?_append_left (List.getElem?_eq_some_iff.mp e).1]; exact e
    have le : RLe R1 { R1 with mu := R1.mu ++ [p] } := ⟨HLe.refl _, HLe.refl _, lm⟩
    have last : ∀ (n : Nat) (a : Addr), (R1.mu ++ [p])[n]? = some a → R1.mu[n]? = some a ∨ (a = p ∧ n = R1.mu.length) := fun n a e => by
      by_cases hn : n < R1.mu.length
      · rw [List.getElem?_append_left hn] at e; exact .inl e
      · have hn2 := (List.getElem?_eq_some_iff.mp e).1
        rw [List.length_append, List.length_singleton] at hn2
        have hn3 : n = R1.mu.length := by omega
        subst hn3
        rw [List.getElem?_append_right (Nat.le_refl _), Nat.sub_self] at e
        cases e
        exact .inr ⟨rfl, rfl⟩
    have G0 := A1.g
    refine q (.ref p) _ { R1 with mu := R1.mu ++ [p] } ⟨G0.le.trans le, G0.eB, ?_, fun a ha => ?_, ?_⟩ (g1.le.trans le) ⟨?_, ?_, ?_, ?_, fun n a es' e1 e2 => ?_⟩ (.loc ?_)
    · have z := G0.at (o := .lst vs) h0 (fun z => mu (by obtain ⟨n, hn⟩ := List.getElem?_of_mem z; exact List.mem_of_getElem? (G0.le.mu n p hn)))
      exact z.kept
    · rcases List.mem_append.mp ha with ha | ha
      · exact G0.muN a ha
      · simp at ha
        subst ha
        exact .inr h0
    · have z := G0.at (o := .lst vs) h0 (fun z => mu (by obtain ⟨n, hn⟩ := List.getElem?_of_mem z; exact List.mem_of_getElem? (G0.le.mu n p hn)))
      exact z.there
    · exact (A1.S.at (o := .lst vs) fz bz mu).fz
    · exact (A1.S.at (o := .lst vs) fz bz mu).bz
    · show (R1.mu ++ [p]).length = (s1 ++ [ds]).length
      rw [List.length_append, List.length_append, A1.S.len]; rfl
    · show (R1.mu ++ [p]).Nodup
      rw [List.nodup_append]
      refine ⟨A1.S.nd, by simp, fun a ha b hb => ?_⟩
      simp at hb
      subst hb
      exact fun z => mu (z ▸ ha)
    · rcases last n a e1 with e1 | ⟨rfl, rfl⟩
      · have e2 : (s1 ++ [ds])[n]? = some es' := e2
        rw [List.getElem?_append_left (by rw [← A1.S.len]; exact (List.getElem?_eq_some_iff.mp e1).1)] at e2
        obtain ⟨k1, k2, k3, ws, k4, k5⟩ := A1.S.at_ n a es' e1 e2
        have ne : a ≠ p := fun z => mu (z ▸ List.mem_of_getElem? e1)
        exact ⟨k1, k2, k3, ws, by rw [upd_ne ne]; exact k4, Reps.mono (R := { R1 with Bz := fun _ => none }) (R' := { R1 with Bz := fun _ => none, mu := R1.mu ++ [p] }) ⟨HLe.refl _, HLe.refl _, lm⟩ _ k5⟩
      · have e2 : (s1 ++ [ds])[R1.mu.length]? = some es' := e2
        rw [A1.S.len, List.getElem?_append_right (Nat.le_refl _), Nat.sub_self] at e2
        cases e2
        refine ⟨fz, bz, nb, vs, upd_same, ?_⟩
        exact Reps.mono (R := { R1 with Bz := fun _ => none }) (R' := { R1 with Bz := fun _ => none, mu := R1.mu ++ [a] }) ⟨HLe.refl _, HLe.refl _, lm⟩ _ (Reps.nob _ _ nb r1)
    · show (R1.mu ++ [p])[s1.length]? = some p
      rw [← A1.S.len, List.getElem?_append_right (Nat.le_refl _), Nat.sub_self]; rfl
end
end Bc

set_option linter.all false
set_option autoImplicit false
set_option maxRecDepth 100000
set_option maxHeartbeats 1000000
namespace Bc
open PySem PySem.Spec L2
section
variable {X : Sx} {C : Cx} {Wx : L2.WX} {W : WD} {k n : Nat} {f : Addr} {fd : FuncData} {ps : List Str} {g : List D → M D} {x : Str} {p pos : Pos} {e : Expr} {es : List Expr}
/-- f() -/
theorem dx_call0 (F : FnOk C.prog C.w C.K C.mg C.base (L2.CX C.prog C.w) k f fd ps (spF X g)) (hr : Room k C.A) (hg : Gl C x) (hm : C.mg x = some (.ref f)) (hk : PySem.W.keepIn C.K (.ref f) = true) (hb : Binds C.K fd ps []) (tk : Takes C Wx) (hW : ∀ c fs s σ H R, W c fs s σ H R → wX X Wx c fs s σ H R)
    (hdb : (x == ("__debug__" : Str)) = false) : PE C (.Call (.Name x p) [] [] pos) (tD X W fun _ => g []) := by
  refine ⟨fun pins s σ H Q I h => ?_⟩
  refine wpAny_Call_Name_kw (ld_glob I hg hm ?_ hdb)
  have h' : spF X g [] H Q (WE Wx σ) := by
    obtain ⟨R, env, sto, S, E, o⟩ := h
    exact ⟨R, sto, [], S, .nil, o.imp (fun d s' q v H' R' g' S' r' => q v H' R' g' S' r') fun c fs s w H' R' g' S' => hW _ _ _ _ _ _ (w H' R' g' S')⟩
  exact PySem.W.callWith_K0 I.kIn hk (run_fnS (us := []) F hr hb (passAt tk σ) I .nil h')
/-- what a call by two keywords, the second parameter first, binds -/
def BindsR (fd : FuncData) (ps : List Str) (k1 k2 : Str) : Prop := ∀ (s : Shared) (u1 u2 : Value), BindsTo s fd ⟨[], [(k1, u1), (k2, u2)]⟩ (ps.zip [u2, u1])
theorem run_fnR {pins : List (Addr × Obj)} {σ : L2.St} {H : Hp} {s : Shared} {Q : VK} {u1 u2 : Value} {v1 v2 : V} {k1 k2 : Str} {E : L2.St → XK} {sp : Sp} (F : FnOk C.prog C.w C.K C.mg C.base (L2.CX C.prog C.w) k f fd ps sp) (hr : Room k C.A) (hb : BindsR fd ps k1 k2) (hx : PassesAt (L2.CX C.prog C.w) C σ (E σ))
    (I : L2.Inv C pins σ H s) (r1 : RelV v1 u1) (r2 : RelV v2 u2) (h : sp [v2, v1] H Q (E σ)) : wpAny (model C.prog C.w) C.A (call (.ref f) [] [(k1, u1), (k2, u2)]) (EP C pins σ Q) C.xe s := by
  refine wpAny_call (codeAny_mono (F.run C.A C.stack s H ⟨[], [(k1, u1), (k2, u2)]⟩ [u2, u1] [v2, v1] Q (E σ) hr I.env0 (hb s u1 u2) (.cons r2 (.cons r1 .nil)) h) fun r s' hq => ?_)
  cases r with
  | error e => exact hx pins H s e s' I hq
  | ok fl =>
    cases fl with
    | ret u => exact I.after hq
    | next => exact False.elim hq
    | brk => exact False.elim hq
    | cont => exact False.elim hq
/-- f(k1 = e1, k2 = e2), the parameters being k2, k1 -/
theorem dx_callR {k1 k2 : Str} {e1 e2 : Expr} {f1 f2 : Env → M D} {q1 q2 : Pos} (F : FnOk C.prog C.w C.K C.mg C.base (L2.CX C.prog C.w) k f fd ps (spF X g)) (hr : Room k C.A) (hg : Gl C x) (hm : C.mg x = some (.ref f)) (hk : PySem.W.keepIn C.K (.ref f) = true) (hb : BindsR fd ps k1 k2) (tk : Takes C Wx) (hW : ∀ c fs s σ H R, W c fs s σ H R → wX X Wx c fs s σ H R)
    (ha : PE C e1 (tD X W f1)) (hb2 : PE C e2 (tD X W f2)) (hdb : (x == ("__debug__" : Str)) = false) : PE C (.Call (.Name x p) [] [⟨some k1, e1, q1⟩, ⟨some k2, e2, q2⟩] pos) (tD X W fun env => (f1 env).bind fun a => (f2 env).bind fun b => g [b, a]) := by
  refine ⟨fun pins s σ H Q I h => ?_⟩
  refine wpAny_Call_Name_kw (ld_glob I hg hm ?_ hdb)
  have hkw : PK C [⟨some k1, e1, q1⟩, ⟨some k2, e2, q2⟩] (tCons (tD X W f1) (tCons (tD X W f2) tNil)) := pk_cons ha (pk_cons hb2 pk_nil)
  refine PySem.W.callWith_KW0 (h₀ := C.base) I.ok.mod.kin hk (by rfl) (thn (hkw.run pos pins s σ H (fun zs H2 => ∃ v1 v2, zs = [v1, v2] ∧ spF X g [v2, v1] H2 Q (WE Wx σ)) I ?_) fun ws s2 ⟨zs, H2, I2, rz, v1, v2, ez, q2⟩ => ⟨I2.kIn, ?_⟩) (by rfl)
  · obtain ⟨R, env, sto, S, E, o⟩ := h
    refine useD S E o fun v1 H1 R1 d1 s1 g1 S1 E1 r1 o1 => ?_
    have o1 : Out (wE X W R1 H1 σ) (((f2 env).bind fun b => g [b, d1]) s1) _ := o1.imp (fun _ _ q => q) fun _ _ _ w H' R' g' S' => w H' R' (g1.trans g') S'
    refine useD S1 E1 o1 fun v2 H2 R2 d2 s2 g2 S2 E2 r2 o2 => ?_
    refine ⟨v1, v2, rfl, R2, s2, [d2, d1], S2, .cons r2 (.cons (r1.mono g2.le) .nil), o2.imp (fun d s' q v H' R' g' S' r' => q v H' R' ((g1.trans g2).trans g') S' r') fun c fs s w H' R' g' S' => hW _ _ _ _ _ _ (w H' R' (g2.trans g') S')⟩
  · subst ez
    cases rz with
    | cons a1 rz =>
      cases rz with
      | cons a2 rz =>
        cases rz
        exact run_fnR F hr hb (passAt tk σ) I2 a1 a2 q2
end
section
variable {X : Sx} {W : WD} {C : Cx} {cl : Cl} {a b : Expr} {fa fb : Env → M D} {pos : Pos}
/-- a + b, lists: a new list -/
theorem dn_add (hK : X.K = C.K) (ha : PE C a (tT X W fa)) (hb : PE C b (tT X W fb)) : PE C (.BinOp a .Add b pos) (tN X W fun env => (fa env).bind fun x => (fb env).bind fun y => binD .Add x y) := by
  refine (pe_op (op_add4 (C := C)) ha hb).weak fun σ H Q ⟨R, env, sto, S, E, o⟩ => ?_
  refine useT S E o fun v H1 R1 d s1 g1 S1 E1 r1 o1 => ?_
  have o1 : Out (wE X W R1 H1 σ) (((fb env).bind fun y => binD .Add d y) s1) _ := o1.imp (fun _ _ q => q) fun _ _ _ w H' R' g' S' => w H' R' (g1.trans g') S'
  refine useT S1 E1 o1 fun v2 H2 R2 d2 s2 g2 S2 E2 r2 o2 => ?_
  have r1 := r1.grow g2
  have g12 := g1.trans g2
  unfold binD at o2
  split at o2
  · obtain ⟨ds, e, _⟩ := Out.pure o2; cases e
  · obtain ⟨hl, o2⟩ := o2.needB
    obtain ⟨ds, e, _⟩ := Out.pure o2; cases e
  · obtain ⟨hl, o2⟩ := o2.needB
    obtain ⟨ds, e, _⟩ := Out.pure o2; cases e
  · obtain ⟨hl, o2⟩ := o2.needB
    obtain ⟨p, vs, rfl, hp, ra⟩ := r1.lst S2
    obtain ⟨q, ws, rfl, hq, rb⟩ := r2.lst S2
    obtain ⟨ds, e, z⟩ := Out.pure o2
    cases e
    refine .inr (.inr (.inr ⟨p, q, vs, ws, rfl, rfl, hp, hq, by rw [ra.length, rb.length]; exact lenOk_line hl, fun p' hp' => ?_⟩))
    have F := Fill.new S2 hp' (ra.append rb)
    have h0 := h0_none g12 hp'
    exact z p' _ R2 (g12.at h0 (mu_new S h0)) (S2.at F.fz F.bz F.mu) h0 F
  · exact o2.elim
  · exact o2.elim
  · exact o2.elim
/-- list(x): a new list -/
theorem dn_list {y : Expr} {ys : List Expr} {fs : Env → M (List D)} {p : Pos} (hK : X.K = C.K) (hg : Gl C "list") (hm : C.mg "list" = none) (ha : PA C (y :: ys) (tTs X W fs)) (he : starEach (y :: ys) C.env = (false, eval y C.env) :: starEach ys C.env) (hpl : (backTo pos (starEach ys C.env)).any (·.1) = false) :
    PE C (.Call (.Name "list" p) (y :: ys) [] pos) (tN X W fun env => (fs env).bind bList) := by
  refine (pe_callTy (call_list_of (X := C)) hg hm PyProof.Rows.boot_list ha (by decide) (by decide) he hpl).weak fun σ H Q ⟨R, env, sto, S, E, o⟩ => ?_
  refine useTs S E o fun vs H1 R1 ds s1 g1 S1 E1 r1 o1 => ?_
  unfold bList at o1
  split at o1
  · obtain ⟨v, rfl, rv⟩ := r1.one
    obtain ⟨xs, h, o1⟩ := o1.ofOptB
    obtain ⟨a, ws, rfl, hs, rs⟩ := rv.seq S1 h
    obtain ⟨es, e, z⟩ := Out.pure o1
    cases e
    refine ⟨a, ws, rfl, hK ▸ hs, fun l hl => ?_⟩
    have F := Fill.new S1 hl rs
    have h0 := h0_none g1 hl
    exact z l _ R1 (g1.at h0 (mu_new S h0)) (S1.at F.fz F.bz F.mu) h0 F
  · exact o1.elim
end
end Bc

set_option linter.all false
set_option autoImplicit false
set_option maxRecDepth 100000
set_option maxHeartbeats 1000000
namespace Bc
open PySem PySem.Spec L2

section
variable {X : Sx} {W : WD} {C : Cx} {pos : Pos}
theorem flatO_cons {f : Bc.D → M (List Bc.D)} {x : Bc.D} {xs : List Bc.D} {s sf : Sto} {ys : List Bc.D} (h : flatO f (x :: xs) s = .ok (ys, sf)) :
    ∃ o s1 zs, f x s = .ok (o, s1) ∧ flatO f xs s1 = .ok (zs, sf) ∧ ys = o ++ zs := by
  unfold flatO at h
  obtain ⟨o, s1, h1, h⟩ := bind_ok h
  obtain ⟨zs, s2, h2, h⟩ := bind_ok h
  cases h
  exact ⟨o, s1, zs, h1, h2, rfl⟩
theorem EnvOk.at {R : Rl} {H : Hp} {σ : L2.St} {env : Env} {D : Addr} {o : HO} (E : EnvOk X R H σ env) (sep : ∀ (j : Nat) (s : Slot), env[j]? = some s → isOwn s = true → σ[j]? ≠ some (some (.ref D))) : EnvOk X R (upd H D o) σ env := by
  refine ⟨E.len, fun j s e => ?_, E.sep⟩
  have h1 := E.at_ j s e
  cases s with
  | un => trivial
  | val d => exact h1
  | own ds2 =>
    obtain ⟨a2, vs2, e1, e2, r⟩ := h1
    exact ⟨a2, vs2, e1, by rw [upd_ne (fun z => sep j _ e rfl (by rw [e1, z]))]; exact e2, r⟩
  | ownK _ => exact h1.elim
  | ownT _ => exact h1.elim
theorem lc2_read {cl : Cl} {t t1 : T} {k k1 : Itb} {it cs it1 cs1 : Es} {e : E} {vs vs1 : List Nat} {σ : L2.St} {H : Hp} {Q : VK} (h : tN X W (evE cl (.lc2 t k it cs t1 k1 it1 cs1 e vs vs1)) σ H Q) (hns : ∀ n ∈ tvs t, n ∈ vs) (hns1 : ∀ n ∈ tvs t1, n ∈ vs1) :
    tLc2 (tI X W true fun env => (evEs cl it env).bind (itD k)) (tG X (tvs t) (asgT cl t)) (tB X W0 (evCs cl cs)) (tI X W0 false fun env => (evEs cl it1 env).bind (itD k1)) (tG X (tvs t1) (asgT cl t1)) (tB X W0 (evCs cl cs1)) (tD X W0 (evE cl e)) vs vs1 σ H Q := by
  obtain ⟨R0, env, s0, S0, E0, o⟩ := h
  unfold evE at o
  generalize hg : (fun env1 d1 => (asgT cl t1 d1 (Bc.wipe env1 vs1)).bind fun env2 => (evCs cl cs1 env2).bind fun b2 => if b2 then (evE cl e env2).bind fun y => (pure (some y) : M (Option Bc.D)) else pure none) = g at o
  have o : Out (wE X W R0 H σ) ((((evEs cl it env).bind (itD k)).bind fun items => (noX (flatO (fun d => (asgT cl t d (Bc.wipe env vs)).bind fun env1 => (evCs cl cs env1).bind fun b =>
        if b then ((evEs cl it1 env1).bind (itD k1)).bind fun items1 => mapO (fun d1 => (asgT cl t1 d1 (Bc.wipe env1 vs1)).bind fun env2 => (evCs cl cs1 env2).bind fun b2 => if b2 then (evE cl e env2).bind fun y => (pure (some y) : M (Option Bc.D)) else pure none) items1 else pure []) items)).bind fun ys =>
      (need (lenOk ys.length)).bind fun _ => pure (.lst true ys)) s0) (fun (d : Bc.D) (s' : Sto) => ∃ ds, d = Bc.D.lst true ds ∧ ∀ a H' R', Grow R0 H R' H' → StOk X R' H' s' → H a = none → Fill X R' H' a ds → Q (.ref a) H') := by
    refine Out.conv ?_ o
    have e0 : ∀ env1, ((evEs cl it1 env1).bind fun ds1 => (itD k1 ds1).bind fun items1 => mapO (fun d1 => (asgT cl t1 d1 (Bc.wipe env1 vs1)).bind fun env2 => (evCs cl cs1 env2).bind fun b2 => if b2 then (evE cl e env2).bind fun y => (pure (some y) : M (Option Bc.D)) else pure none) items1) = (((evEs cl it1 env1).bind (itD k1)).bind fun items1 => mapO (fun d1 => (asgT cl t1 d1 (Bc.wipe env1 vs1)).bind fun env2 => (evCs cl cs1 env2).bind fun b2 => if b2 then (evE cl e env2).bind fun y => (pure (some y) : M (Option Bc.D)) else pure none) items1) := fun env1 => by
      funext s
      unfold M.bind
      cases evEs cl it1 env1 s <;> rfl
    simp only [e0]
    unfold M.bind
    cases evEs cl it env s0 <;> rfl
  clear hg g
  refine ⟨R0, env, s0, S0, E0, (Out.bind o).imp (fun items s1 o1 J H1 R1 g1 S1 jok => ?_) fun _ _ _ w => w⟩
  intro D hD
  generalize hf : (fun d => (asgT cl t d (Bc.wipe env vs)).bind fun env1 => (evCs cl cs env1).bind fun b =>
        if b then ((evEs cl it1 env1).bind (itD k1)).bind fun items1 => mapO (fun d1 => (asgT cl t1 d1 (Bc.wipe env1 vs1)).bind fun env2 => (evCs cl cs1 env2).bind fun b2 => if b2 then (evE cl e env2).bind fun y => (pure (some y) : M (Option Bc.D)) else pure none) items1 else (pure [] : M (List Bc.D))) = f at o1
  have o2 := Out.bind o1
  obtain ⟨ys, sf, ey, o2⟩ : ∃ ys sf, flatO f items s1 = .ok (ys, sf) ∧ Out (wE X W R0 H σ) (((need (lenOk ys.length)).bind fun _ => M.pure (.lst true ys)) sf) (fun (d : Bc.D) (s' : Sto) => ∃ ds, d = Bc.D.lst true ds ∧ ∀ a H' R', Grow R0 H R' H' → StOk X R' H' s' → H a = none → Fill X R' H' a ds → Q (.ref a) H') := by
    unfold noX at o2
    cases e1 : flatO f items s1 with
    | ok p => rw [e1] at o2; exact ⟨p.1, p.2, rfl, o2⟩
    | exc _ _ _ => rw [e1] at o2; exact o2.elim
    | stuck => rw [e1] at o2; exact o2.elim
  obtain ⟨hl, o3⟩ := o2.needB
  have hl := lenOk_line hl
  have E1 : EnvOk X R1 H1 σ env := E0.grow g1
  have hD1 : R1.Fz D = none := fz_none S1 hD
  have hB1 : R1.Bz D = none := bz_none S1 hD
  have hM1 : D ∉ R1.mu := mu_new S1 hD
  have hD0 : H D = none := h0_none g1 hD
  refine ⟨fun i m H' => m = items.length - i ∧ i ≤ items.length ∧ ∃ R' s' acc zs, Grow R1 H1 R' H' ∧ StOk X R' H' s' ∧ Fill X R' H' D acc ∧ flatO f (items.drop i) s' = .ok (zs, sf) ∧ acc ++ zs = ys, ⟨items.length, by simp, Nat.zero_le _, R1, s1, [], ys, ?_, S1.at hD1 hB1 hM1, ⟨⟨[], upd_same, .nil⟩, hD1, hB1, hM1⟩, by simpa using ey, rfl⟩, ?_⟩
  · exact (Grow.refl R1 H1).at hD hM1
  rintro i m H2 ⟨rfl, hi, R2, s2, acc, zs, g2, S2, F2, e2, ea⟩
  by_cases hlt : i < items.length
  · refine .inr ?_
    obtain ⟨go, yl⟩ := jok.go R2 H2 s2 i items[i] (show Grow R1 H1 R2 H2 from g2) S2 (by simp [hlt])
    rw [List.drop_eq_getElem_cons hlt] at e2
    obtain ⟨ob, s3, zs2, e3, e4, ez⟩ := flatO_cons e2
    refine ⟨go, fun H' => i + 1 ≤ items.length ∧ ∃ R' s' acc zs, Grow R1 H1 R' H' ∧ StOk X R' H' s' ∧ Fill X R' H' D acc ∧ flatO f (items.drop (i + 1)) s' = .ok (zs, sf) ∧ acc ++ zs = ys, fun H' n => ⟨items.length - (i + 1), by omega, rfl, n⟩, fun x H3 y => ?_⟩
    obtain ⟨R3, g3, S3, r3⟩ := yl x H3 y
    rw [← hf] at e3
    obtain ⟨env1, s4, e5, e3⟩ := bind_ok e3
    obtain ⟨b, s5, e6, e3⟩ := bind_ok e3
    have g13 := g2.trans g3
    refine ⟨R3, Bc.wipe env vs, s2, items[i], S3, ((E1.grow g13).wipe vs), r3, out_ok e5 fun σ4 H4 R4 g4 S4 E4 k1' k2' => ?_⟩
    have sepD : ∀ (j : Nat) (s : Slot), env1[j]? = some s → isOwn s = true → σ4[j]? ≠ some (some (.ref D)) := fun j s e1 e2 => by
      have hj : j ∉ tvs t := fun z => by rw [asgT_own e5 j (.inl z) s e1] at e2; cases e2
      rw [k2' j hj] at e1
      rw [k1' j hj]
      rcases wipeE_get e1 with rfl | ⟨e3, hv⟩
      · cases e2
      · rw [wipe_out hv]
        exact sep_new E1 hD j s e3 e2
    refine ⟨?_, R4, env1, s4, S4, E4, out_ok e6 fun H5 R5 g5 S5 => ?_⟩
    · have hl4 : σ4.length = (L2.wipe σ vs).length := by
        have a1 := E4.len
        have a2 := ((E1.grow g13).wipe vs).len
        have : env1.length = (Bc.wipe env vs).length := asgT_len (W' := noW) (k := fun _ _ => True) (by rw [e5]; trivial) e5
        omega
      have w1 := wipe_eq hl4 (vs := vs) fun i hi => k1' i fun z => hi (hns i z)
      rw [w1]; exact wipe_wipe σ vs
    · have g15 := (g13.trans g4).trans g5
      have F5 := ((F2.grow g3).grow g4).grow g5
      cases b with
      | false =>
        rw [if_neg Bool.false_ne_true] at e3
        cases e3
        refine iteF ?_
        exact ⟨hlt, R5, s3, acc, zs2, g15, S5, F5, e4, by rw [ez] at ea; exact ea⟩
      | true =>
        rw [if_pos rfl] at e3
        refine iteT ?_
        obtain ⟨items1, s6, e7, e3⟩ := bind_ok e3
        refine ⟨R5, env1, s5, S5, E4.grow g5, out_ok e7 fun J1 H6 R6 g6 S6 jok1 => ?_⟩
        have F6 := F5.grow g6
        have E6 : EnvOk X R6 H6 σ4 env1 := (E4.grow g5).grow g6
        have g16 := g15.trans g6
        generalize hh : (fun d1 => (asgT cl t1 d1 (Bc.wipe env1 vs1)).bind fun env2 => (evCs cl cs1 env2).bind fun b2 => if b2 then (evE cl e env2).bind fun y => (pure (some y) : M (Option Bc.D)) else pure none) = hm at e3
        -- the inner loop; all but D grows on from (R6, H6)
        refine ⟨fun j m H' => m = items1.length - j ∧ j ≤ items1.length ∧ ∃ R' s' acc1 zs1, Grow R1 H1 R' H' ∧ RLe R6 R' ∧ EnvOk X R' H' σ4 env1 ∧ StOk X R' H' s' ∧ Fill X R' H' D (acc ++ acc1) ∧ mapO hm (items1.drop j) s' = .ok (zs1, s3) ∧ acc1 ++ zs1 = ob, ⟨items1.length, by simp, Nat.zero_le _, R6, s6, [], ob, g16, RLe.refl _, E6, S6, by simpa using F6, by simpa using e3, rfl⟩, ?_⟩
        rintro j m H7 ⟨rfl, hj, R7, s7, acc1, zs1, g7, le7, E7, S7, F7, e8, ea1⟩
        by_cases hlt1 : j < items1.length
        · refine .inr ?_
          obtain ⟨go1, yl1⟩ := jok1.go R7 H7 s7 j items1[j] (show RLe R6 R7 from le7) S7 (by simp [hlt1])
          rw [List.drop_eq_getElem_cons hlt1] at e8
          obtain ⟨ob1, s8, zs3, e9, e10, ez1⟩ := mapO_cons e8
          refine ⟨go1, fun H' => j + 1 ≤ items1.length ∧ ∃ R' s' acc1 zs1, Grow R1 H1 R' H' ∧ RLe R6 R' ∧ EnvOk X R' H' σ4 env1 ∧ StOk X R' H' s' ∧ Fill X R' H' D (acc ++ acc1) ∧ mapO hm (items1.drop (j + 1)) s' = .ok (zs1, s3) ∧ acc1 ++ zs1 = ob, fun H' n => ⟨items1.length - (j + 1), by omega, rfl, n⟩, fun x1 H8 y1 => ?_⟩
          obtain ⟨R8, g8, S8, r8⟩ := yl1 x1 H8 y1
          rw [← hh] at e9
          obtain ⟨env2, s9, e11, e9⟩ := bind_ok e9
          obtain ⟨b2, s10, e12, e9⟩ := bind_ok e9
          refine ⟨R8, Bc.wipe env1 vs1, s7, items1[j], S8, ((E7.grow g8).wipe vs1), r8, out_ok e11 fun σ9 H9 R9 g9 S9 E9 k2 _ => ?_⟩
          refine ⟨?_, R9, env2, s9, S9, E9, out_ok e12 fun H10 R10 g10 S10 => ?_⟩
          · have hl9 : σ9.length = (L2.wipe σ4 vs1).length := by
              have a1 := E9.len
              have a2 := ((E7.grow g8).wipe vs1).len
              have : env2.length = (Bc.wipe env1 vs1).length := asgT_len (W' := noW) (k := fun _ _ => True) (by rw [e11]; trivial) e11
              omega
            have w1 := wipe_eq hl9 (vs := vs1) fun i hi => k2 i fun z => hi (hns1 i z)
            rw [w1]; exact wipe_wipe σ4 vs1
          · have gg := (g8.trans g9).trans g10
            have F10 := F7.grow gg
            cases b2 with
            | false =>
              rw [if_neg Bool.false_ne_true] at e9
              cases e9
              refine iteF ?_
              exact ⟨hlt1, R10, s8, acc1, zs3, g7.trans gg, le7.trans gg.le, E7.grow gg, S10, F10, e10, by rw [ez1] at ea1; exact ea1⟩
            | true =>
              rw [if_pos rfl] at e9
              refine iteT ?_
              obtain ⟨yv, s11, e13, e9⟩ := bind_ok e9
              cases e9
              refine ⟨R10, env2, s10, S10, E9.grow g10, out_ok e13 fun v H11 R11 g11 S11 r11 => ?_⟩
              have ga := gg.trans g11
              have F11 := F10.grow g11
              obtain ⟨ws, ew, rw11⟩ := F11.at_
              have ez1 : zs1 = yv :: zs3 := ez1
              have lena : ws.length < sizeLine := by
                rw [rw11.length]
                have h1 : ob.length = acc1.length + (zs3.length + 1) := by rw [← ea1, ez1, List.length_append, List.length_cons]
                have h2 : ys.length = acc.length + (ob.length + zs2.length) := by rw [← ea, ez, List.length_append, List.length_append]
                rw [List.length_append]
                omega
              have FP := F11.push ew r11
              have hE : EnvOk X R11 (upd H11 D (.lst (ws ++ [v]))) σ4 env1 := ((E7.grow gg).grow g11).at sepD
              refine ⟨ws, ew, lena, hlt1, R11, s8, acc1 ++ [yv], zs3, (g7.trans ga).at hD hM1, le7.trans ga.le, hE, S11.at F11.fz F11.bz F11.mu, by rw [← List.append_assoc]; exact FP, e10, ?_⟩
              rw [← ea1, ez1, List.append_assoc]; rfl
        · refine .inl ⟨jok1.stop R7 H7 s7 j (show RLe R6 R7 from le7) S7 (by omega), ?_⟩
          rw [List.drop_eq_nil_of_le (by omega)] at e8
          cases e8
          rw [List.append_nil] at ea1
          subst ea1
          refine ⟨hlt, R7, s3, acc ++ acc1, zs2, g7, S7, F7, e4, ?_⟩
          rw [← ea, ez, List.append_assoc]
  · refine .inl ⟨jok.stop R2 H2 s2 i (show Grow R1 H1 R2 H2 from g2) S2 (by omega), ?_⟩
    rw [List.drop_eq_nil_of_le (by omega)] at e2
    cases e2
    rw [List.append_nil] at ea
    subst ea
    obtain ⟨ds, e9, q9⟩ := Out.pure (show Out _ (M.pure (Bc.D.lst true acc) sf) _ from o3)
    cases e9
    exact q9 D H2 R2 (g1.trans g2) S2 hD0 F2
theorem lc2_lst {cl : Cl} {t t1 : T} {k k1 : Itb} {it cs it1 cs1 : Es} {e : E} {vs vs1 : List Nat} {W' : Nat → List (Nat × Bc.D) → Sto → Prop} {env : Env} {s : Sto} {kk : Bc.D → Sto → Prop} (h : Out W' (evE cl (.lc2 t k it cs t1 k1 it1 cs1 e vs vs1) env s) kk) :
    Out W' (evE cl (.lc2 t k it cs t1 k1 it1 cs1 e vs vs1) env s) fun d s' => kk d s' ∧ ∃ ds, d = .lst true ds := by
  unfold evE at h ⊢
  have key : ∀ (ys : List Bc.D) (s' : Sto), Out W' (((need (lenOk ys.length)).bind fun _ => (M.pure (.lst true ys) : M Bc.D)) s') kk → Out W' (((need (lenOk ys.length)).bind fun _ => (M.pure (.lst true ys) : M Bc.D)) s') fun d s' => kk d s' ∧ ∃ ds, d = .lst true ds := fun ys s' h => by
    obtain ⟨hl, h⟩ := h.needB
    rw [hl]
    exact ⟨h, _, rfl⟩
  refine Out.unbind (Out.bind h) fun ds s1 h1 => ?_
  refine Out.unbind (Out.bind h1) fun ds s1 h1 => ?_
  refine Out.unbind (Out.bind h1) fun ds s1 h1 => ?_
  exact key _ _ h1
/-- a block's context -/
abbrev Cb (C : Cx) (s : Shared) (H : Hp) (scope : Scope) (A : Addr) (c : List (Str × Addr)) (fp : List Addr) : Cx := C.blk s H scope (compEnvC scope c A C.env) fp
section
variable {elt tg iter tg1 iter1 : Expr} {ifs ifs1 : List Expr} {scope : Scope} {ownp : List (Str × Nat)} {cl : Cl} {t t1 : T} {k k1 : Itb} {it cs it1 cs1 : Es} {e : E} {vs1 : List Nat}
theorem dn_lc2 (hK : X.K = C.K) (hc : C.calm = true) (hN : C.N.Nodup) (hi : PI C tg iter (tI X W true fun env => (evEs cl it env).bind (itD k))) (ok : BlkOk C.N C.env.scope scope ownp) (hv : ∀ i ∈ vs1, i ∈ ownp.map (·.2))
    (hg : ∀ s H A c fp, PG (Cb C s H scope A c fp) tg (tG X (tvs t) (asgT cl t))) (hns : ∀ n ∈ tvs t, n ∈ ownp.map (·.2)) (ht : ∀ s H A c fp, PTs (Cb C s H scope A c fp) ifs (tB X W0 (evCs cl cs)))
    (hi1 : ∀ s H A c fp, PI (Cb C s H scope A c fp) tg1 iter1 (tI X W0 false fun env => (evEs cl it1 env).bind (itD k1))) (hg1 : ∀ s H A c fp, PG (Cb C s H scope A c fp) tg1 (tG X (tvs t1) (asgT cl t1))) (hns1 : ∀ n ∈ tvs t1, n ∈ vs1)
    (ht1 : ∀ s H A c fp, PTs (Cb C s H scope A c fp) ifs1 (tB X W0 (evCs cl cs1))) (he : ∀ s H A c fp, PE (Cb C s H scope A c fp) elt (tD X W0 (evE cl e)))
    (hs : ∀ x, foldedSetIterable iter C.env x = pure x) (hs1 : ∀ env x, foldedSetIterable iter1 env x = pure x) :
    PE C (.ListComp elt [⟨tg, iter, ifs, 0⟩, ⟨tg1, iter1, ifs1, 0⟩] scope pos) (tN X W (evE cl (.lc2 t k it cs t1 k1 it1 cs1 e (ownp.map (·.2)) vs1))) :=
  (pe_lc2 hc hN hi ok hv hg ht hi1 hg1 ht1 he hs hs1).weak fun σ H Q h => lc2_read h hns hns1
theorem dx_lc2 (hK : X.K = C.K) (hc : C.calm = true) (hN : C.N.Nodup) (hi : PI C tg iter (tI X W true fun env => (evEs cl it env).bind (itD k))) (ok : BlkOk C.N C.env.scope scope ownp) (hv : ∀ i ∈ vs1, i ∈ ownp.map (·.2))
    (hg : ∀ s H A c fp, PG (Cb C s H scope A c fp) tg (tG X (tvs t) (asgT cl t))) (hns : ∀ n ∈ tvs t, n ∈ ownp.map (·.2)) (ht : ∀ s H A c fp, PTs (Cb C s H scope A c fp) ifs (tB X W0 (evCs cl cs)))
    (hi1 : ∀ s H A c fp, PI (Cb C s H scope A c fp) tg1 iter1 (tI X W0 false fun env => (evEs cl it1 env).bind (itD k1))) (hg1 : ∀ s H A c fp, PG (Cb C s H scope A c fp) tg1 (tG X (tvs t1) (asgT cl t1))) (hns1 : ∀ n ∈ tvs t1, n ∈ vs1)
    (ht1 : ∀ s H A c fp, PTs (Cb C s H scope A c fp) ifs1 (tB X W0 (evCs cl cs1))) (he : ∀ s H A c fp, PE (Cb C s H scope A c fp) elt (tD X W0 (evE cl e)))
    (hs : ∀ x, foldedSetIterable iter C.env x = pure x) (hs1 : ∀ env x, foldedSetIterable iter1 env x = pure x) :
    PE C (.ListComp elt [⟨tg, iter, ifs, 0⟩, ⟨tg1, iter1, ifs1, 0⟩] scope pos) (tD X W (evE cl (.lc2 t k it cs t1 k1 it1 cs1 e (ownp.map (·.2)) vs1))) :=
  (pe_lc2 hc hN hi ok hv hg ht hi1 hg1 ht1 he hs hs1).weak fun σ H Q h => lc2_read (tN_tD (fun _ _ _ _ => lc2_lst) h) hns hns1
end
/-! ### a comprehension stored at a name of its own line -/
variable {R0 : Rl} {H0 : Hp} {cl : Cl} {w : Nat}
theorem set_val {i : Nat} {f : E} {De : Ends} {σ : L2.St} {H : Hp} (h : tS X W R0 H0 (evS cl w (.asg (.nm i) f)) De σ H) : tD X W (evE cl f) σ H fun x H1 => De.nx (σ.set i (some x)) H1 := by
  obtain ⟨R, env, sto, A, o⟩ := h
  unfold evS at o
  refine useSD A o fun v H1 R1 d s1 g1 A1 r1 o1 => ?_
  unfold asgT at o1
  by_cases hi : i < env.length
  · rw [if_pos hi] at o1
    exact (show endS X R0 H0 R De (.nx, env.set i (.val d)) s1 from o1) _ H1 R1 (A1.set hi r1) g1.le
  · rw [if_neg hi] at o1; exact o1.elim
theorem set_own {i : Nat} {f : E} {De : Ends} {σ : L2.St} {H : Hp} (h : tS X W R0 H0 (evS cl w (.asgOwn i f)) De σ H) : tN X W (evE cl f) σ H fun x H1 => De.nx (σ.set i (some x)) H1 := by
  obtain ⟨R, env, sto, A, o⟩ := h
  unfold evS at o
  refine ⟨R, env, sto, A.S, A.E, (Out.bind o).imp (fun d s' o1 => ?_) (wS_wE A.g)⟩
  split at o1
  · rename_i xs
    refine ⟨xs, rfl, fun a H' R' g S' hn F => ?_⟩
    split at o1
    · rename_i hi'
      obtain ⟨vs, e, r⟩ := F.at_
      have q := (show endS X R0 H0 R De (.nx, env.set i (.own xs)) s' from o1)
      refine q _ H' R' ((A.grow g S').setOwn hi' e F.fz F.bz F.mu (h0_none A.g hn) r fun j s _ e1 e2 => sep_new A.E hn j s e1 e2) g.le
    · exact o1.elim
  · exact o1.elim
section
variable {i : Nat} {y : Str} {py spos : Pos} {elt tg iter tg1 iter1 : Expr} {ifs ifs1 : List Expr} {scope : Scope} {ownp : List (Str × Nat)} {t t1 : T} {k k1 : Itb} {it cs it1 cs1 : Es} {e : E} {vs1 : List Nat}
theorem dt_setLc (hK : X.K = C.K) (hc : C.calm = true) (hN : C.N.Nodup) (hy : C.N[i]? = some y) (hyl : C.env.scope.names.lookup y = some .local) (hsw : swapsWith (.ListComp elt [⟨tg, iter, ifs, 0⟩] scope pos) (some (.Name y py)) spos.line C.env = pure true)
    (hi : PI C tg iter (tI X W true fun env => (evEs cl it env).bind (itD k))) (ok : BlkOk C.N C.env.scope scope ownp)
    (hg : ∀ s H A c fp, PG (Cb C s H scope A c fp) tg (tG X (tvs t) (asgT cl t))) (hns : ∀ n ∈ tvs t, n ∈ ownp.map (·.2)) (ht : ∀ s H A c fp, PTs (Cb C s H scope A c fp) ifs (tB X W0 (evCs cl cs)))
    (he : ∀ s H A c fp, PE (Cb C s H scope A c fp) elt (tD X W0 (evE cl e))) (hs : ∀ x, foldedSetIterable iter C.env x = pure x) :
    PS C (.Assign [.Name y py] (.ListComp elt [⟨tg, iter, ifs, 0⟩] scope pos) spos) (tS X W R0 H0 (evS cl w (.asg (.nm i) (.lc t k it cs e (ownp.map (·.2)))))) :=
  (ps_setLc hc hN hy hyl hsw hi ok hg ht he hs).weak fun De σ H h => lc_read (tN_tD (fun _ _ _ _ => lc_lst) (set_val h)) hns
theorem dt_ownLc (hK : X.K = C.K) (hc : C.calm = true) (hN : C.N.Nodup) (hy : C.N[i]? = some y) (hyl : C.env.scope.names.lookup y = some .local) (hsw : swapsWith (.ListComp elt [⟨tg, iter, ifs, 0⟩] scope pos) (some (.Name y py)) spos.line C.env = pure true)
    (hi : PI C tg iter (tI X W true fun env => (evEs cl it env).bind (itD k))) (ok : BlkOk C.N C.env.scope scope ownp)
    (hg : ∀ s H A c fp, PG (Cb C s H scope A c fp) tg (tG X (tvs t) (asgT cl t))) (hns : ∀ n ∈ tvs t, n ∈ ownp.map (·.2)) (ht : ∀ s H A c fp, PTs (Cb C s H scope A c fp) ifs (tB X W0 (evCs cl cs)))
    (he : ∀ s H A c fp, PE (Cb C s H scope A c fp) elt (tD X W0 (evE cl e))) (hs : ∀ x, foldedSetIterable iter C.env x = pure x) :
    PS C (.Assign [.Name y py] (.ListComp elt [⟨tg, iter, ifs, 0⟩] scope pos) spos) (tS X W R0 H0 (evS cl w (.asgOwn i (.lc t k it cs e (ownp.map (·.2)))))) :=
  (ps_setLc hc hN hy hyl hsw hi ok hg ht he hs).weak fun De σ H h => lc_read (set_own h) hns
theorem dt_setLc2 (hK : X.K = C.K) (hc : C.calm = true) (hN : C.N.Nodup) (hy : C.N[i]? = some y) (hyl : C.env.scope.names.lookup y = some .local) (hsw : swapsWith (.ListComp elt [⟨tg, iter, ifs, 0⟩, ⟨tg1, iter1, ifs1, 0⟩] scope pos) (some (.Name y py)) spos.line C.env = pure true)
    (hi : PI C tg iter (tI X W true fun env => (evEs cl it env).bind (itD k))) (ok : BlkOk C.N C.env.scope scope ownp) (hv : ∀ i ∈ vs1, i ∈ ownp.map (·.2))
    (hg : ∀ s H A c fp, PG (Cb C s H scope A c fp) tg (tG X (tvs t) (asgT cl t))) (hns : ∀ n ∈ tvs t, n ∈ ownp.map (·.2)) (ht : ∀ s H A c fp, PTs (Cb C s H scope A c fp) ifs (tB X W0 (evCs cl cs)))
    (hi1 : ∀ s H A c fp, PI (Cb C s H scope A c fp) tg1 iter1 (tI X W0 false fun env => (evEs cl it1 env).bind (itD k1))) (hg1 : ∀ s H A c fp, PG (Cb C s H scope A c fp) tg1 (tG X (tvs t1) (asgT cl t1))) (hns1 : ∀ n ∈ tvs t1, n ∈ vs1)
    (ht1 : ∀ s H A c fp, PTs (Cb C s H scope A c fp) ifs1 (tB X W0 (evCs cl cs1))) (he : ∀ s H A c fp, PE (Cb C s H scope A c fp) elt (tD X W0 (evE cl e)))
    (hs : ∀ x, foldedSetIterable iter C.env x = pure x) (hs1 : ∀ env x, foldedSetIterable iter1 env x = pure x) :
    PS C (.Assign [.Name y py] (.ListComp elt [⟨tg, iter, ifs, 0⟩, ⟨tg1, iter1, ifs1, 0⟩] scope pos) spos) (tS X W R0 H0 (evS cl w (.asg (.nm i) (.lc2 t k it cs t1 k1 it1 cs1 e (ownp.map (·.2)) vs1)))) :=
  (ps_setLc2 hc hN hy hyl hsw hi ok hv hg ht hi1 hg1 ht1 he hs hs1).weak fun De σ H h => lc2_read (tN_tD (fun _ _ _ _ => lc2_lst) (set_val h)) hns hns1
end
end
end Bc

set_option linter.all false
set_option autoImplicit false
set_option maxRecDepth 100000
set_option maxHeartbeats 1000000
namespace Bc
open PySem PySem.Spec L2

section
variable {X : Sx} {W : WD} {C : Cx} {pos : Pos} {cl : Cl}
/-! ### (*xs, y) -/
theorem dx_star {e : Expr} {es : List Expr} {p : Pos} {f : Env → M Bc.D} {g : Env → M (List Bc.D)} (hK : X.K = C.K) (ha : PE C e (tT X W f)) (hr : PA C es (tDs X W g)) :
    PA C (.Starred e p :: es) (tDs X W fun env => (f env).bind fun x => (ofOpt (asSeq x)).bind fun xs => (g env).bind fun ys => M.pure (xs ++ ys)) := by
  refine (StX.pa_star ha hr rfl).weak fun σ H Q ⟨R, env, sto, S, E, o⟩ => ?_
  refine useT S E o fun v H1 R1 d s1 g1 S1 E1 r1 o1 => ?_
  obtain ⟨xs, e1, o2⟩ := o1.ofOptB
  obtain ⟨a, vs, rfl, hs, rs⟩ := r1.seq S1 e1
  refine ⟨a, vs, rfl, hK ▸ hs.symm, ?_⟩
  have o2 : Out (wE X W R1 H1 σ) (((g env).bind fun ys => M.pure (xs ++ ys)) s1) _ := o2.imp (fun _ _ q => q) (wE_on g1)
  refine useDs S1 E1 o2 fun ws H2 R2 ds s2 g2 S2 E2 r2 o3 => ?_
  exact o3.pure _ H2 R2 (g1.trans g2) S2 ((Reps.mono g2.le _ rs).append r2)
theorem dxT_star {e : Expr} {es : List Expr} {p : Pos} {f : Env → M Bc.D} {g : Env → M (List Bc.D)} (hK : X.K = C.K) (ha : PE C e (tT X W f)) (hr : PA C es (tTs X W g)) :
    PA C (.Starred e p :: es) (tTs X W fun env => (f env).bind fun x => (ofOpt (asSeq x)).bind fun xs => (g env).bind fun ys => M.pure (xs ++ ys)) := by
  refine (StX.pa_star ha hr rfl).weak fun σ H Q ⟨R, env, sto, S, E, o⟩ => ?_
  refine useT S E o fun v H1 R1 d s1 g1 S1 E1 r1 o1 => ?_
  obtain ⟨xs, e1, o2⟩ := o1.ofOptB
  obtain ⟨a, vs, rfl, hs, rs⟩ := r1.seq S1 e1
  refine ⟨a, vs, rfl, hK ▸ hs.symm, ?_⟩
  have o2 : Out (wE X W R1 H1 σ) (((g env).bind fun ys => M.pure (xs ++ ys)) s1) _ := o2.imp (fun _ _ q => q) (wE_on g1)
  refine useTs S1 E1 o2 fun ws H2 R2 ds s2 g2 S2 E2 r2 o3 => ?_
  have app : ∀ {vs : List V} {xs : List Bc.D} {ws : List V} {ys : List Bc.D}, Reps X R2 vs xs → RepTs X R2 H2 ws ys → RepTs X R2 H2 (vs ++ ws) (xs ++ ys) := by
    intro vs xs ws ys a b
    induction xs generalizing vs with
    | nil => cases a; exact b
    | cons d ds ih => cases a with | cons a1 a2 => exact .cons (.inl a1) (ih a2)
  exact o3.pure _ H2 R2 (g1.trans g2) S2 (app (Reps.mono g2.le _ rs) r2)
/-! ### a dict of the module -/
/-- the written dict at p holds tab -/
structure KTab (X : Sx) (K : PySem.W.Frag) (w : World) (p : Addr) (tab : List (Str × Bc.D)) : Prop where
  at_ : ∃ es n, K.lookup p = some ⟨.type "dict", none, .dict es n, #[]⟩ ∧ PySem.W.KeysLit w.params es.toList
  low : (p == sysModules) = false
  val : ∀ z, (tab.lookup z = none ∧ PySem.W.nsIn K p z = some none) ∨ ∃ d v u, tab.lookup z = some d ∧ PySem.W.nsIn K p z = some (some u) ∧ RelV v u ∧ ∀ R, Rep X R v d
def tKget (K : PySem.W.Frag) (p : Addr) (ta tb : TE) : TE := fun σ H Q => ta σ H fun y H1 => tb σ H1 fun z H2 => ∃ (k : Str) (o : Option V), y = .str k ∧ ((o = none ∧ PySem.W.nsIn K p k = some none) ∨ ∃ v u, o = some v ∧ PySem.W.nsIn K p k = some (some u) ∧ RelV v u) ∧ Q (o.getD z) H2
theorem pe_kget {x : Str} {a b : Expr} {np apos cpos : Pos} {p : Addr} {es : Array DictEntry} {n : Nat} {ta tb : TE} (hg : Gl C x) (hm : C.mg x = some (.ref p)) (hd : (x == ("__debug__" : Str)) = false) (hl : C.K.lookup p = some ⟨.type "dict", none, .dict es n, #[]⟩) (hk : PySem.W.KeysLit C.w.params es.toList) (low : (p == sysModules) = false)
    (ha : PE C a ta) (hb : PE C b tb) (m : M2 C (.Name x np) "get" apos a b cpos) : PE C (.Call (.Attribute (.Name x np) "get" apos) [a, b] [] cpos) (tKget C.K p ta tb) := by
  refine ⟨fun pins s σ H Q I h => ?_⟩
  refine wpAny_Call_method m.base m.few m.line PySem.F.plainAttrs_dict PySem.F.slot_dict_get PySem.F.type_dict_get (thn ((pe_glob (v := .ref p) hg hm rfl hd).run pins s σ H (fun v H1 => v = .ref p ∧ H1 = H) I ⟨rfl, rfl⟩) fun u s1 ⟨x, H1, I1, rx, ex, eH⟩ => ?_)
  subst ex
  subst eH
  obtain rfl : u = Value.ref p := rx
  have hM := PySem.W.mapOf_K (prog := C.prog) (w := C.w) I1.kIn hl hk
  refine ⟨hM.typeIs, fun b q => by cases q; exact ⟨_, I1.kIn _ _ hl, rfl⟩, ?_⟩
  rw [m.trees]
  refine Calls.callWith_builtin rfl (Calls.evalArgs_plain (Calls.spliced_cons (thn (ha.run pins s1 σ H1 _ I1 h) fun iv s2 ⟨y, H2, I2, ry, q2⟩ =>
    Calls.spliced_cons (thn (hb.run pins s2 σ H2 _ I2 q2) fun fv s3 ⟨z, H3, I3, rz, k, o, ey, ho, q3⟩ => Calls.spliced_nil ?_))))
  subst ey
  obtain ⟨t, rfl⟩ := (show ∃ t, iv = Value.str k t from ry)
  have hM3 := PySem.W.mapOf_K (prog := C.prog) (w := C.w) I3.kIn hl hk
  refine call_meetsIn PySem.F.slot_dict_get hM3.typeIs PySem.F.entry_dict_get (PySem.F.args_dict_get_3 _ _ _) (meets_dict_get_default (strKind C.prog C.w) p (strKind_is C.prog C.w k t) low fv) ⟨_, hM3, ?_⟩
  rcases ho with ⟨rfl, e⟩ | ⟨v, u, rfl, e, r⟩
  · rw [PySem.W.find_K hl e]
    exact ⟨z, H3, I3.tok _, rz, q3⟩
  · rw [PySem.W.find_K hl e]
    exact ⟨v, H3, I3.tok _, r, q3⟩
theorem dx_kget {x : Str} {a b : Expr} {np apos cpos : Pos} {tab : List (Str × Bc.D)} {p : Addr} {fa fb : Env → M Bc.D} (hg : Gl C x) (hm : C.mg x = some (.ref p)) (hd : (x == ("__debug__" : Str)) = false) (T : KTab X C.K C.w p tab) (ha : PE C a (tT X W fa)) (hb : PE C b (tD X W fb))
    (m : M2 C (.Name x np) "get" apos a b cpos) : PE C (.Call (.Attribute (.Name x np) "get" apos) [a, b] [] cpos) (tD X W fun env => (fa env).bind fun x => (fb env).bind fun y => match x with
      | .str z => M.pure ((tab.lookup z).getD y)
      | _ => stuck) := by
  obtain ⟨es, n, hl, hk⟩ := T.at_
  refine (pe_kget hg hm hd hl hk T.low ha hb m).weak fun σ H Q ⟨R, env, sto, S, E, o⟩ => ?_
  refine useT S E o fun v H1 R1 d s1 g1 S1 E1 r1 o1 => ?_
  have o1 : Out (wE X W R1 H1 σ) (((fb env).bind fun y => match d with
      | .str z => M.pure ((tab.lookup z).getD y)
      | _ => stuck) s1) _ := o1.imp (fun _ _ q => q) (wE_on g1)
  refine useD S1 E1 o1 fun v2 H2 R2 d2 s2 g2 S2 E2 r2 o2 => ?_
  cases d with
  | str z =>
    have q := Out.pure o2
    rw [r1.str]
    rcases T.val z with ⟨e1, e2⟩ | ⟨d', v', u', e1, e2, rl, rp⟩
    · rw [e1] at q
      exact ⟨z, none, rfl, .inl ⟨rfl, e2⟩, q v2 H2 R2 (g1.trans g2) S2 r2⟩
    · rw [e1] at q
      exact ⟨z, some v', rfl, .inr ⟨v', u', rfl, e2, rl⟩, q v' H2 R2 (g1.trans g2) S2 (rp R2)⟩
  | _ => exact o2.elim
/-! ### {(x, y): z for ..}, at a name of its own line -/
/-- d[b] = v in a comprehension, b a tuple -/
theorem set_tup {C : Cx} {pins : List (Addr × Obj)} {σ : L2.St} {H : Hp} {s : Shared} {E : Value → Shared → Prop} {a b : Addr} {kvs : List (List L2.Key × V)} {k : List L2.Key} {v : V} {r : Value} {Q : Unit → Shared → Prop} (hu : C.A.units + 1 < cLine) (I : L2.Inv C pins σ H s) (e : H a = some (.dT kvs)) (eb : H b = some (.tup (k.map kV))) (l : kvs.length < sizeLine)
    (rv : RelV v r) (h : ∀ s', L2.Inv C pins σ (upd H a (.dT (putK kvs k v))) s' → Q () s') : wpAny (model C.prog C.w) C.A (dictSet a (.ref b) r) Q E s := by
  obtain ⟨z, hd, xs, rel, dd⟩ := dt_of I.hok e
  have hl : (putK kvs k v).length ≤ sizeLine := by have := length_putK kvs k v; omega
  refine wpAny_dictSet_heap (hsz := by rw [← Paired.length rel]; exact z) (show C.A.units < cLine by omega) (key_of I.hok eb) dd fun h' dd' hs => h _ ?_
  obtain ⟨q, es, ep, hq, h2, h3, h4, _, h5⟩ := dd'
  refine d_write I (by rw [e]; exact True.intro) hs ⟨q, hq⟩ ⟨hl, hd, _, (rel.put k eb rv).keeps fun c ys ec => ?_, q, es, ep, hq, h2, h3, h4, h5⟩
  rw [upd_ne (ne_of ec e (fun z => nomatch z))]
  exact ec
/-- its reading: D the new dict -/
def tDcT (wi : TI) (g : TG) (tt : TT) (tk tv : TE) (vs : List Nat) : TE := fun σ H Q => wi σ H fun J H1 => ∀ D, H1 D = none → ∃ W : Nat → Nat → Hp → Prop, (∃ m, W 0 m (upd H1 D (.dT []))) ∧ ∀ i m H, W i m H →
  (J.stop i H ∧ Q (.ref D) H) ∨ (J.go i H ∧ ∃ Nx : Hp → Prop, (∀ H', Nx H' → ∃ m', m' < m ∧ W (i + 1) m' H') ∧ ∀ x H', J.yld i H x H' → g x (L2.wipe σ vs) H' fun σ2 H2 => L2.wipe σ2 vs = L2.wipe σ vs ∧ tt σ2 H2 fun b H3 =>
    if b = true then tk σ2 H3 fun y H4 => tv σ2 H4 fun z H5 => ∃ (kvs : List (List L2.Key × V)) (k : List L2.Key) (b : Addr), y = .ref b ∧ H5 b = some (.tup (k.map kV)) ∧ H5 D = some (.dT kvs) ∧ kvs.length < sizeLine ∧ Nx (upd H5 D (.dT (putK kvs k z))) else Nx H3)
section
variable {C : Cx} {kx vx tg iter : Expr} {ifs : List Expr} {scope : Scope} {ownp : List (Str × Nat)} {pos pos' : Pos} {wi : TI} {g : TG} {tt : TT} {tk tv : TE}
/-- the block runs; behind it hRR -/
theorem dcT_run {pins : List (Addr × Obj)} {s : Shared} {σ : L2.St} {H : Hp} {Q : VK} {use : Option (Value → Sem Unit)} {Qf : Value → Shared → Prop} (hu : C.A.units + 1 < cLine)
    (hc : C.calm = true) (hN : C.N.Nodup) (I : L2.Inv C pins σ H s) (hi : PI C tg iter wi) (ok : BlkOk C.N C.env.scope scope ownp)
    (hg : ∀ s H A c fp, PG (Cb C s H scope A c fp) tg g) (ht : ∀ s H A c fp, PTs (Cb C s H scope A c fp) ifs tt) (hk : ∀ s H A c fp, PE (Cb C s H scope A c fp) kx tk) (hv : ∀ s H A c fp, PE (Cb C s H scope A c fp) vx tv)
    (hs : ∀ x, foldedSetIterable iter C.env x = pure x) (h : tDcT wi g tt tk tv (ownp.map (·.2)) σ H Q)
    (hRR : ∀ D A s' m H', L2.Inv C pins σ H' s' → Q (.ref D) H' → s'.heap.Ns A m → FpOk C pins H' A → compPost (model C.prog C.w) C.A C.xe use Qf (.ref D) A (.ok .next) s') :
    wpAny (model C.prog C.w) C.A (comprehension (.DictComp kx vx [⟨tg, iter, ifs, 0⟩] scope pos) scope C.env pos' newDict false (eval iter C.env) use) Qf C.xe s := by
  refine wpAny_comprehension_free (use := use) rfl hs (closure_ok fun y hy e => (ok.free y hy e).elim (fun k => I.ok.has _ (.inl k)) fun k => I.ok.has _ (.inr k)) ok.kind (fun y hy e => by rw [ok.uniq y hy, e])
    (thn (hi.run pins s σ H _ I h) fun xv s1 hx => thn hx fun itv s2 ⟨it, fp, tn, J, H2, e, I2, T, st2, f2, q⟩ => ?_)
  subst e
  refine wpAny_newObj_type (newEnv_comp ?_)
  have fr2 : H2 s2.heap.objs.size = none := I2.hok.fresh (Nat.le_refl _)
  obtain ⟨W, ⟨m0, w0⟩, turn⟩ := q s2.heap.objs.size fr2
  have I3 : L2.Inv C pins σ (upd H2 s2.heap.objs.size (.dT [])) { s2 with heap := s2.heap.push { cls := .type "dict", data := .dict #[] } } :=
    I2.laid (t' := s2.toks) (fun b o e => Heap.get?_push_of_some _ e) (Nat.le_refl _) (dt_empty s2.heap I2.big)
  have f3 : ∀ b ∈ fp, FpOk C pins (upd H2 s2.heap.objs.size (.dT [])) b ∧ b < (s2.heap.push { cls := .type "dict", data := .dict #[] }).objs.size := fun b hb => by
    obtain ⟨o, e, _⟩ := T.obj _ _ st2 b hb
    have hlt := Heap.lt_size e
    exact ⟨⟨by rw [upd_ne (Nat.ne_of_lt hlt)]; exact (f2 b hb).1, (f2 b hb).2⟩, by rw [Heap.size_push]; exact Nat.lt_succ_of_lt hlt⟩
  generalize hD : s2.heap.objs.size = D at *
  generalize hs3 : ({ s2 with heap := s2.heap.push { cls := .type "dict", data := .dict #[] } } : Shared) = s3 at I3
  have h3 : s3.heap = s2.heap.push { cls := .type "dict", data := .dict #[] } := by rw [← hs3]
  rw [← h3] at f3
  have st3 : tn 0 s3.heap := T.keep _ _ _ st2 fun b _ o e => by rw [h3]; exact Heap.get?_push_of_some _ e
  have I4 := block_start I3 ok hN f3
  have pg : PG (C.blk s3 (upd H2 D (.dT [])) scope (compEnvC scope (cellsFrom (s3.heap.objs.size + 1) scope.names (cloFrom C.env.cells scope.names [])) s3.heap.objs.size C.env) fp) tg g := hg s3 (upd H2 D (.dT [])) s3.heap.objs.size (cellsFrom (s3.heap.objs.size + 1) scope.names (cloFrom C.env.cells scope.names [])) fp
  have pt : PTs (C.blk s3 (upd H2 D (.dT [])) scope (compEnvC scope (cellsFrom (s3.heap.objs.size + 1) scope.names (cloFrom C.env.cells scope.names [])) s3.heap.objs.size C.env) fp) ifs tt := ht s3 (upd H2 D (.dT [])) s3.heap.objs.size (cellsFrom (s3.heap.objs.size + 1) scope.names (cloFrom C.env.cells scope.names [])) fp
  have pk : PE (C.blk s3 (upd H2 D (.dT [])) scope (compEnvC scope (cellsFrom (s3.heap.objs.size + 1) scope.names (cloFrom C.env.cells scope.names [])) s3.heap.objs.size C.env) fp) kx tk := hk s3 (upd H2 D (.dT [])) s3.heap.objs.size (cellsFrom (s3.heap.objs.size + 1) scope.names (cloFrom C.env.cells scope.names [])) fp
  have pv : PE (C.blk s3 (upd H2 D (.dT [])) scope (compEnvC scope (cellsFrom (s3.heap.objs.size + 1) scope.names (cloFrom C.env.cells scope.names [])) s3.heap.objs.size C.env) fp) vx tv := hv s3 (upd H2 D (.dT [])) s3.heap.objs.size (cellsFrom (s3.heap.objs.size + 1) scope.names (cloFrom C.env.cells scope.names [])) fp
  show codeAny _ _ (.compStart (.DictComp kx vx [⟨tg, iter, ifs, 0⟩] scope pos) 0 (.ref it) (.ref D) (compEnvC scope (cellsFrom (s3.heap.objs.size + 1) scope.names (cloFrom C.env.cells scope.names [])) s3.heap.objs.size C.env)) (compPost (model C.prog C.w) C.A C.xe use Qf (.ref D) s3.heap.objs.size) _
  have nfp : ∀ b ∈ fp, (upd H2 D (.dT [])) b = none := fun b hb => (f3 b hb).1.1
  generalize hce : compEnvC scope (cellsFrom (s3.heap.objs.size + 1) scope.names (cloFrom C.env.cells scope.names [])) s3.heap.objs.size C.env = ce at I4 pg pt pk pv ⊢
  have cL : ce.locals = s3.heap.objs.size := by subst hce; rfl
  generalize hH3 : upd H2 D (.dT []) = H3 at I3 I4 pg pt pk pv w0 nfp f3
  generalize hs4 : ({ s3 with heap := pushCells (s3.heap.push { cls := .type "dict", data := .dict #[] }) scope.names } : Shared) = s4 at I4 ⊢
  have st4 : tn 0 s4.heap := T.keep _ _ _ st3 fun b _ o e => by rw [← hs4]; exact pushCells_keeps _ _ _ _ (Heap.get?_push_of_some _ e)
  -- the iterator's objects within the block
  have own : ∀ {σ' : L2.St} {H' : Hp} {s' : Shared}, L2.Inv (C.blk s3 H3 scope ce fp) [] σ' H' s' → (∀ b ∈ fp, H' b = none) → ∀ b ∈ fp, FpOk (C.blk s3 H3 scope ce fp) [] H' b := fun I' hn b hb =>
    ⟨hn b hb, (I'.ok.exf b hb).1, I'.ok.exfs b hb, .inl hb, fun x c e => (I'.ok.exf b hb).2 x c e, fun p hp => absurd (show p ∈ ([] : List (Addr × Obj)) ++ [] from hp) (by simp)⟩
  have loop : codeAny (model C.prog C.w) C.A (.compLoop (.DictComp kx vx [⟨tg, iter, ifs, 0⟩] scope pos) 0 (.ref it) (.ref D) ce) (compPost (model C.prog C.w) C.A C.xe use Qf (.ref D) s3.heap.objs.size) s4 := by
    refine compLoop_anyD (fun n s' => ∃ i H', L2.Inv (C.blk s3 H3 scope ce fp) [] (L2.wipe σ (ownp.map (·.2))) H' s' ∧ tn i s'.heap ∧ (∀ b ∈ fp, H' b = none) ∧ W i n H') ?_ m0 ⟨0, H3, I4, st4, nfp, w0⟩
    rintro n s5 ⟨i, H5, I5, st5, n5, w5⟩
    rcases turn i n H5 w5 with ⟨stop, qq⟩ | ⟨go, Nx, hNx, step⟩
    · refine thnF (T.done (C.blk s3 H3 scope ce fp) rfl rfl rfl hc i [] s5 _ H5 (fun _ _ => False) I5 (own I5 n5) st5 stop) fun r s6 ⟨hr, I6⟩ => ?_
      subst hr
      have back : L2.Inv C pins σ H5 s6 := I3.call' (ch := fp) I6.os I6.base I6.hok I6.bare fun b hb => ⟨(f3 b hb).1.2.2.2.1, (f3 b hb).1.2.1, (f3 b hb).1.2.2.2.2.1, (f3 b hb).1.2.2.2.2.2⟩
      have nL : H5 s3.heap.objs.size = none := cL ▸ (show H5 ce.locals = none from I6.free)
      obtain ⟨m, hn, _⟩ := I6.loc
      exact hRR D s3.heap.objs.size s6 m H5 back qq (cL ▸ (show s6.heap.Ns ce.locals m from hn)) (I3.fpOk (Nat.le_refl _) nL)
    · refine thnF (T.item (C.blk s3 H3 scope ce fp) rfl rfl rfl hc i [] s5 _ H5 (fun _ _ => False) I5 (own I5 n5) st5 go) fun r s6 ⟨u, hr, h6⟩ => ?_
      subst hr
      refine thnF h6 fun _ s7 ⟨x, H7, I7, r7, y7, st7, n7⟩ => ?_
      refine thnF (pg.run _ s7 _ H7 x u _ (I7.pinned (own I7 n7) (T.obj _ _ st7)) r7 (step x H7 y7)) fun _ s8 ⟨σ8, H8, I8, hw8, q8⟩ => ?_
      refine thnF (pt.run _ s8 σ8 H8 _ I8 q8) fun b s9 ⟨H9, I9, q9⟩ => ?_
      have next : ∀ {s' : Shared} {H' : Hp}, L2.Inv (C.blk s3 H3 scope ce fp) ([] ++ pinsAt fp s7.heap) σ8 H' s' → Nx H' → ∃ m, m < n ∧ ∃ i H', L2.Inv (C.blk s3 H3 scope ce fp) [] (L2.wipe σ (ownp.map (·.2))) H' s' ∧ tn i s'.heap ∧ (∀ b ∈ fp, H' b = none) ∧ W i m H' := fun {s' H'} I' nx => by
        obtain ⟨m', hm, w'⟩ := hNx H' nx
        have pin' : ∀ b ∈ fp, ∀ o, s7.heap.get? b = some o → s'.heap.get? b = some o ∧ H' b = none := fun b hb o e =>
          let z := I'.pin (b, o) (List.mem_append_right _ (List.mem_append_right _ (mem_pinsAt hb e)))
          ⟨z.1, z.2.1⟩
        refine ⟨m', hm, i + 1, H', (I'.unpinned (pins := [])).weak (by rw [← hw8, L2.wipe_length]) (fun j v e => ?_), T.keep _ _ _ st7 fun b hb o e => (pin' b hb o e).1, fun b hb => ?_, w'⟩
        · rw [← hw8] at e
          exact (wipe_some e).1
        · obtain ⟨o, e, _⟩ := T.obj _ _ st7 b hb
          exact (pin' b hb o e).2
      cases b with
      | false => exact next I9 q9
      | true =>
        simp only [if_true] at q9 ⊢
        refine thnF (pk.run _ s9 σ8 H9 _ I9 q9) fun z s10 ⟨yk, H10, I10, r10, q10⟩ => ?_
        refine thnF (pv.run _ s10 σ8 H10 _ I10 q10) fun z2 s11 ⟨yv, H11, I11, r11, kvs, k, b, ek, hb11, hD11, hz11, nx⟩ => ?_
        subst ek
        obtain rfl : z = Value.ref b := r10
        exact set_tup (C := C.blk s3 H3 scope ce fp) hu I11 hD11 hb11 hz11 r11 fun s12 I12 => next I12 nx
  exact codeAny_compStart_dict loop (T.self C.A 0 _ _ _ st4 loop)
theorem ps_setDcT {i : Nat} {y : Str} {py spos : Pos} (hu : C.A.units + 1 < cLine) (hc : C.calm = true) (hN : C.N.Nodup) (hy : C.N[i]? = some y) (hyl : C.env.scope.names.lookup y = some .local)
    (hsw : swapsWith (.DictComp kx vx [⟨tg, iter, ifs, 0⟩] scope pos) (some (.Name y py)) spos.line C.env = pure true) (hi : PI C tg iter wi) (ok : BlkOk C.N C.env.scope scope ownp)
    (hg : ∀ s H A c fp, PG (Cb C s H scope A c fp) tg g) (ht : ∀ s H A c fp, PTs (Cb C s H scope A c fp) ifs tt) (hk : ∀ s H A c fp, PE (Cb C s H scope A c fp) kx tk) (hv : ∀ s H A c fp, PE (Cb C s H scope A c fp) vx tv)
    (hs : ∀ x, foldedSetIterable iter C.env x = pure x) : PS C (.Assign [.Name y py] (.DictComp kx vx [⟨tg, iter, ifs, 0⟩] scope pos) spos) (tAsg (tDcT wi g tt tk tv (ownp.map (·.2))) (gName i)) := by
  refine ⟨fun pins s σ H D I h => ?_⟩
  rw [exec_Assign_Name_used _ _ _ _ hsw]
  refine wpAny_bind (wpAny_standAt (wpAny_bind ?_))
  show wpAny _ C.A (do let _ ← comprehension (.DictComp kx vx [⟨tg, iter, ifs, 0⟩] scope pos) scope C.env (firstIterPos [⟨tg, iter, ifs, 0⟩] pos) newDict false (eval iter C.env) (some (assign (.Name y py) C.env))) _ _ s
  have h : tDcT wi g tt tk tv (ownp.map (·.2)) σ H (fun x H1 => gName i x σ H1 D.nx) := h
  refine wpAny_bind (thn (dcT_run (Qf := fun _ s' => SP C pins D .next s') hu hc hN I hi ok hg ht hk hv hs h fun L A s' m H' I' q hn f => ?_) fun _ s' hq => wpAny_pure (wpAny_pure hq))
  show wpAny _ _ (assign (.Name y py) C.env (.ref L)) _ _ _
  refine wpAny_assign_Name (store_ok2 (v := V.ref L) I' hN hy (.inl hyl) rfl (fun s2 I2 ⟨a, sb, ha⟩ => ?_) (.inr hyl))
  obtain ⟨f0, f1, f2, f3, f4, f5⟩ := f
  refine ⟨m, hn.sameBut sb ?_, fun h3 sb3 => ⟨_, H', I2.turned (t' := s2.toks) (fun b o hb e => (sb3.2 b hb).trans e) f0 f1 f3 f4 f5, q⟩⟩
  rcases ha with z | z
  · rw [z]; exact f1
  · exact fun e => f4 y a z e.symm
end
end
/-! ### what it reads -/
section
variable {X : Sx} {W : WD} {C : Cx}
theorem Rept.any {R : Rl} (k : List L2.Key) : ∀ {vs : List (List L2.Key × V)} {ds : List (List L2.Key × Bc.D)}, Rept X R vs ds → (vs.any fun kv => decide (kv.1 = k)) = ds.any fun kv => decide (kv.1 = k)
  | _, _, .nil => rfl
  | _, _, .cons r t => by rw [List.any_cons, List.any_cons, t.any k]
theorem Rept.repl {R : Rl} {x : V} {d : Bc.D} (k : List L2.Key) (r : Rep X R x d) : ∀ {vs : List (List L2.Key × V)} {ds : List (List L2.Key × Bc.D)}, Rept X R vs ds → Rept X R (vs.map fun kv => if kv.1 = k then (kv.1, x) else kv) (ds.map fun kv => if kv.1 = k then (kv.1, d) else kv)
  | _, _, .nil => .nil
  | _, _, .cons (k := j) q t => by
    rw [List.map_cons, List.map_cons]
    by_cases h : j = k
    · rw [if_pos h, if_pos h]; exact .cons r (t.repl k r)
    · rw [if_neg h, if_neg h]; exact .cons q (t.repl k r)
theorem Rept.snoc {R : Rl} {x : V} {d : Bc.D} (k : List L2.Key) (r : Rep X R x d) : ∀ {vs : List (List L2.Key × V)} {ds : List (List L2.Key × Bc.D)}, Rept X R vs ds → Rept X R (vs ++ [(k, x)]) (ds ++ [(k, d)])
  | _, _, .nil => .cons r .nil
  | _, _, .cons q t => .cons q (t.snoc k r)
theorem Rept.put {R : Rl} {x : V} {d : Bc.D} {vs : List (List L2.Key × V)} {ds : List (List L2.Key × Bc.D)} (k : List L2.Key) (r : Rep X R x d) (h : Rept X R vs ds) : Rept X R (putK vs k x) (dPut ds k d) := by
  unfold putK dPut
  rw [h.any k]
  split
  · exact h.repl k r
  · exact h.snoc k r
theorem Rept.length {R : Rl} : ∀ {vs : List (List L2.Key × V)} {ds : List (List L2.Key × Bc.D)}, Rept X R vs ds → vs.length = ds.length
  | _, _, .nil => rfl
  | _, _, .cons _ t => congrArg Nat.succ t.length
/-- a fresh dict that is being filled -/
structure FillT (X : Sx) (R : Rl) (H : Hp) (D : Addr) (acc : List (List L2.Key × Bc.D)) : Prop where
  at_ : ∃ vs, H D = some (.dT vs) ∧ Rept X R vs acc
  fz : R.Fz D = none
  bz : R.Bz D = none
  mu : D ∉ R.mu
theorem FillT.grow {R R' : Rl} {H H' : Hp} {D : Addr} {acc : List (List L2.Key × Bc.D)} (g : Grow R H R' H') (f : FillT X R H D acc) : FillT X R' H' D acc := by
  obtain ⟨vs, e, r⟩ := f.at_
  obtain ⟨k1, k2⟩ := g.kept D _ e f.mu
  exact ⟨⟨vs, k1, Rept.mono g.le _ r⟩, k2.trans f.fz, by rw [g.eB]; exact f.bz, g.notmu e f.mu⟩
/-- whatever stands at D is frozen -/
theorem freeze_at {R0 R : Rl} {H0 H : Hp} {sto : Sto} {D : Addr} {o : HO} (fz : R.Fz D = none) (mu : D ∉ R.mu) (e : H D = some o) (S : StOk X R H sto) (g : Grow R0 H0 R H) (h : H0 D = none) :
    RLe R (R.put D o) ∧ Grow R0 H0 (R.put D o) H ∧ StOk X (R.put D o) H sto := by
  have le : RLe R (R.put D o) := put_le fz
  have hp : ∀ a, a ≠ D → (R.put D o).Fz a = R.Fz a := fun a z => upd_ne z
  have hD : (R.put D o).Fz D = some o := upd_same
  refine ⟨le, ⟨g.le.trans le, g.eB, fun a o e1 m => ?_, g.muN, g.there⟩, ⟨fun a o e1 => ?_, S.bz, S.len, S.nd, fun n a ds e1 e2 => ?_⟩⟩
  · obtain ⟨k1, k2⟩ := g.kept a o e1 m
    exact ⟨k1, by rw [hp a (ne_of_none e1 h)]; exact k2⟩
  · by_cases z : a = D
    · rw [z, hD] at e1
      rw [z, e]; exact e1
    · rw [hp a z] at e1; exact S.fz a o e1
  · obtain ⟨f', b', nb, ws, e3, r⟩ := S.at_ n a ds e1 e2
    refine ⟨by rw [hp a (fun z => mu (z ▸ List.mem_of_getElem? e1))]; exact f', b', nb, ws, e3, ?_⟩
    exact Reps.mono (R := { R with Bz := fun _ => none }) (R' := { R.put D o with Bz := fun _ => none }) ⟨le.fz, HLe.refl _, fun _ _ e => e⟩ _ r
theorem foldD_cons {f : Bc.D → M (Option (List L2.Key × Bc.D))} {x : Bc.D} {xs : List Bc.D} {acc out : List (List L2.Key × Bc.D)} {s sf : Sto} (h : foldD f (x :: xs) acc s = .ok (out, sf)) :
    ∃ o s1, f x s = .ok (o, s1) ∧ ((o = none ∧ foldD f xs acc s1 = .ok (out, sf)) ∨ ∃ p, o = some p ∧ acc.length < LINE ∧ foldD f xs (dPut acc p.1 p.2) s1 = .ok (out, sf)) := by
  unfold foldD at h
  obtain ⟨o, s1, h1, h⟩ := bind_ok h
  cases o with
  | some p =>
    obtain ⟨u, s2, h2, h⟩ := bind_ok h
    unfold need at h2
    split at h2
    · rename_i hl
      cases h2
      exact ⟨_, s1, h1, .inr ⟨p, rfl, of_decide_eq_true hl, h⟩⟩
    · cases h2
  | none => exact ⟨_, s1, h1, .inl ⟨rfl, h⟩⟩
theorem dc_read {cl : Cl} {t : T} {k : Itb} {it cs : Es} {e f : E} {vs ns : List Nat} {σ : L2.St} {H : Hp} {Q : VK} (h : tD X W (evE cl (.dcT t k it cs e f vs)) σ H Q) (hns : ∀ n ∈ ns, n ∈ vs) :
    tDcT (tI X W true fun env => (evEs cl it env).bind (itD k)) (tG X ns (asgT cl t)) (tB X W0 (evCs cl cs)) (tD X W0 (evE cl e)) (tD X W0 (evE cl f)) vs σ H Q := by
  obtain ⟨R0, env, s0, S0, E0, o⟩ := h
  unfold evE at o
  generalize hf : (fun d => (asgT cl t d (Bc.wipe env vs)).bind fun env1 => (evCs cl cs env1).bind fun b => if b then (evE cl e env1).bind fun y => (evE cl f env1).bind fun z => (ofOpt (keyT y)).bind fun k => (pure (some (k, z)) : M (Option (List L2.Key × Bc.D))) else pure none) = g at o
  have o : Out (wE X W R0 H σ) ((((evEs cl it env).bind (itD k)).bind fun items => (noX (foldD g items [])).bind fun kvs => (need (lenOk kvs.length)).bind fun _ => pure (.dT true kvs)) s0) (fun (d : Bc.D) (s' : Sto) => ∀ v H' R', Grow R0 H R' H' → StOk X R' H' s' → Rep X R' v d → Q v H') := by
    refine Out.conv ?_ o
    unfold M.bind
    cases evEs cl it env s0 <;> rfl
  refine ⟨R0, env, s0, S0, E0, (Out.bind o).imp (fun items s1 o1 J H1 R1 g1 S1 jok => ?_) fun _ _ _ w => w⟩
  intro D hD
  have o2 := Out.bind o1
  obtain ⟨out, sf, ey, o2⟩ : ∃ out sf, foldD g items [] s1 = .ok (out, sf) ∧ Out (wE X W R0 H σ) (((need (lenOk out.length)).bind fun _ => M.pure (.dT true out)) sf) (fun (d : Bc.D) (s' : Sto) => ∀ v H' R', Grow R0 H R' H' → StOk X R' H' s' → Rep X R' v d → Q v H') := by
    unfold noX at o2
    cases e1 : foldD g items [] s1 with
    | ok p => rw [e1] at o2; exact ⟨p.1, p.2, rfl, o2⟩
    | exc _ _ _ => rw [e1] at o2; exact o2.elim
    | stuck => rw [e1] at o2; exact o2.elim
  obtain ⟨hl, o3⟩ := o2.needB
  have hl := lenOk_line hl
  have E1 : EnvOk X R1 H1 σ env := E0.grow g1
  have hD1 : R1.Fz D = none := fz_none S1 hD
  have hB1 : R1.Bz D = none := bz_none S1 hD
  have hM1 : D ∉ R1.mu := mu_new S1 hD
  have hD0 : H D = none := h0_none g1 hD
  refine ⟨fun i m H' => m = items.length - i ∧ i ≤ items.length ∧ ∃ R' s' acc, Grow R1 H1 R' H' ∧ StOk X R' H' s' ∧ FillT X R' H' D acc ∧ foldD g (items.drop i) acc s' = .ok (out, sf), ⟨items.length, by simp, Nat.zero_le _, R1, s1, [], ?_, S1.at hD1 hB1 hM1, ⟨⟨[], upd_same, .nil⟩, hD1, hB1, hM1⟩, by simpa using ey⟩, ?_⟩
  · exact (Grow.refl R1 H1).at hD hM1
  rintro i m H2 ⟨rfl, hi, R2, s2, acc, g2, S2, F2, e2⟩
  by_cases hlt : i < items.length
  · refine .inr ?_
    obtain ⟨go, yl⟩ := jok.go R2 H2 s2 i items[i] (show Grow R1 H1 R2 H2 from g2) S2 (by simp [hlt])
    rw [List.drop_eq_getElem_cons hlt] at e2
    obtain ⟨ob, s3, e3, e4⟩ := foldD_cons e2
    refine ⟨go, fun H' => i + 1 ≤ items.length ∧ ∃ R' s' acc, Grow R1 H1 R' H' ∧ StOk X R' H' s' ∧ FillT X R' H' D acc ∧ foldD g (items.drop (i + 1)) acc s' = .ok (out, sf), fun H' n => ⟨items.length - (i + 1), by omega, rfl, n⟩, fun x H3 y => ?_⟩
    obtain ⟨R3, g3, S3, r3⟩ := yl x H3 y
    rw [← hf] at e3
    obtain ⟨env1, s4, e5, e3⟩ := bind_ok e3
    obtain ⟨b, s5, e6, e3⟩ := bind_ok e3
    have g13 := g2.trans g3
    refine ⟨R3, Bc.wipe env vs, s2, items[i], S3, ((E1.grow g13).wipe vs), r3, out_ok e5 fun σ4 H4 R4 g4 S4 E4 k1 _ => ?_⟩
    refine ⟨?_, R4, env1, s4, S4, E4, out_ok e6 fun H5 R5 g5 S5 => ?_⟩
    · have hl4 : σ4.length = (L2.wipe σ vs).length := by
        have a1 := E4.len
        have a2 := ((E1.grow g13).wipe vs).len
        have : env1.length = (Bc.wipe env vs).length := asgT_len (W' := noW) (k := fun _ _ => True) (by rw [e5]; trivial) e5
        omega
      have w1 := wipe_eq hl4 (vs := vs) fun i hi => k1 i fun z => hi (hns i z)
      rw [w1]; exact wipe_wipe σ vs
    · have g15 := (g13.trans g4).trans g5
      have F5 := ((F2.grow g3).grow g4).grow g5
      cases b with
      | false =>
        rw [if_neg Bool.false_ne_true] at e3
        cases e3
        refine iteF ?_
        rcases e4 with ⟨_, e4⟩ | ⟨p, z, _⟩
        · exact ⟨hlt, R5, s3, acc, g15, S5, F5, e4⟩
        · cases z
      | true =>
        rw [if_pos rfl] at e3
        refine iteT ?_
        obtain ⟨yv, s6, e7, e3⟩ := bind_ok e3
        obtain ⟨zv, s7, e8, e3⟩ := bind_ok e3
        obtain ⟨kk, s8, e9, e3⟩ := bind_ok e3
        cases e3
        cases hk : keyT yv with
        | none => rw [hk] at e9; cases e9
        | some kk' =>
          rw [hk] at e9
          cases e9
          refine ⟨R5, env1, s5, S5, E4.grow g5, out_ok e7 fun v H6 R6 g6 S6 r6 => ?_⟩
          refine ⟨R6, env1, s6, S6, (E4.grow g5).grow g6, out_ok e8 fun v2 H7 R7 g7 S7 r7 => ?_⟩
          have F7 := (F5.grow g6).grow g7
          obtain ⟨ws, ew, rw7⟩ := F7.at_
          unfold keyT at hk
          split at hk
          · rename_i xs
            obtain ⟨b, us, rfl, hb, rb⟩ := RepT.tupX S7 (.inl (r6.mono g7.le))
            rw [keys_v rb hk] at hb
            rcases e4 with ⟨z, _⟩ | ⟨p, z, hl4, e4⟩
            · cases z
            · cases z
              refine ⟨ws, kk, b, rfl, hb, ew, by rw [rw7.length, sizeLine_eq]; exact hl4, hlt, R7, s3, _, ((g15.trans g6).trans g7).at hD hM1, S7.at F7.fz F7.bz F7.mu, ⟨⟨_, upd_same, rw7.put kk r7⟩, F7.fz, F7.bz, F7.mu⟩, e4⟩
          · cases hk
  · refine .inl ⟨jok.stop R2 H2 s2 i (show Grow R1 H1 R2 H2 from g2) S2 (by omega), ?_⟩
    rw [List.drop_eq_nil_of_le (by omega)] at e2
    cases e2
    obtain ⟨vs2, ev, rv⟩ := F2.at_
    obtain ⟨le, g', S'⟩ := freeze_at F2.fz F2.mu ev S2 (g1.trans g2) hD0
    exact Out.pure (show Out _ (M.pure (Bc.D.dT true out) sf) _ from o3) (.ref D) H2 _ g' S' (.dT upd_same (Rept.mono le _ rv))
end
end Bc

set_option linter.all false
set_option autoImplicit false
set_option maxRecDepth 100000
set_option maxHeartbeats 1000000
namespace Bc
open PySem PySem.Spec L2

/-! ### what the trees look like -/
def isStar : Expr → Bool
  | .Starred .. => true
  | _ => false
theorem starEach_one {e : Expr} {es : List Expr} {env : PySem.Env} (h : isStar e = false) : starEach (e :: es) env = (false, eval e env) :: starEach es env := by
  cases e <;> first | rfl | (cases h; done)
theorem plain_star {pos : Pos} {env : PySem.Env} : ∀ {es : List Expr}, es.any isStar = false → (backTo pos (starEach es env)).any (·.1) = false
  | [], _ => rfl
  | e :: es, h => by
    have h2 : isStar e = false ∧ es.any isStar = false := by simpa using h
    rw [starEach_one h2.1]
    show (false || (backTo pos (starEach es env)).any (·.1)) = false
    rw [plain_star h2.2]; rfl
def isComp : Expr → Bool
  | .ListComp .. => true
  | .SetComp .. => true
  | .DictComp .. => true
  | _ => false
theorem swaps_no {e : Expr} {tg : Option Expr} {l : Nat} {env : PySem.Env} (h : isComp e = false) : swapsWith e tg l env = pure false := by
  cases e <;> first | rfl | (cases h; done)
theorem sole_no {tg e : Expr} {l : Nat} {env : PySem.Env} (h : isComp e = false) : swapsWithSole [tg] e l env = pure false := swaps_no h
def isName : Expr → Bool
  | .Name .. => true
  | _ => false
theorem sole_no2 {tg e : Expr} {l : Nat} {env : PySem.Env} (h : isName tg = false) : swapsWithSole [tg] e l env = pure false := by
  show swapsWith e (some tg) l env = pure false
  cases e <;> first | rfl | (cases tg <;> first | rfl | (cases h; done))
def isSlice : Expr → Bool
  | .Slice .. => true
  | _ => false
theorem plain_ix {b : Expr} (h : isSlice b = false) : PlainIx b := fun o i => by cases b <;> first | rfl | (cases h; done)
def isSet : Expr → Bool
  | .Set .. => true
  | _ => false
theorem marks_no {o : CmpOp} {e : Expr} (h : isSet e = false) : behindInMarks o e = false := by cases e <;> first | rfl | (cases h; done)
theorem folded_no {e : Expr} {env : PySem.Env} (h : isSet e = false) (x : Value) : foldedSetIterable e env x = pure x := by cases e <;> first | rfl | (cases h; done)
def isSup : Expr → Bool
  | .Call _ [] _ _ => true
  | _ => false
theorem base_no {o : Expr} {a : Str} {env : PySem.Env} {whole : Sem Value} (h : isSup o = false) : attributeBase o a env whole = whole := by
  cases o with
  | Call f es ks p => cases es with
    | nil => cases h
    | cons e es => cases f <;> rfl
  | _ => rfl
def isTest : Expr → Bool
  | .UnaryOp .Not _ _ => true
  | .BoolOp .. => true
  | .IfExp .. => true
  | .Compare .. => true
  | _ => false
theorem true_no {e : Expr} {env : PySem.Env} (h : isTest e = false) (whole : Sem Value) : isTrue e env whole = (do let v ← whole; standAt e.pos; holding [v] (truthy v)) := by
  cases e with
  | UnaryOp o x p => cases o <;> first | rfl | (cases h; done)
  | _ => first | rfl | (cases h; done)
theorem assign_one {e : Expr} {es : List Expr} {env : PySem.Env} (h : isStar e = false) : (assignEach (e :: es) env).map (·.2) = assign e env :: (assignEach es env).map (·.2) := by
  cases e <;> first | rfl | (cases h; done)
def isSeq : Expr → Bool
  | .Tuple .. => true
  | .List .. => true
  | _ => false
theorem stores_no {tg e : Expr} {env : PySem.Env} (h : isSeq tg = false ∨ isSeq e = false) : swappedStores [tg] e env = pure none := by
  rcases h with h | h
  · cases tg <;> first | rfl | (cases h; done)
  · cases tg <;> cases e <;> first | rfl | (cases h; done)
/-- two or three names of one line are stored from the right -/
def locAt1 (sc : Scope) (line : Nat) : Expr → Option Str
  | .Name x pos => if sc.names.lookup x == some .local && pos.line == line then some x else none
  | _ => none
def blkFn (sc : Scope) : Bool := (if sc.kind.isAnnotationScope then ScopeKind.function else sc.kind) == .function
theorem stores_par {sc : Scope} {env : PySem.Env} {x y : Str} {px py pt pt2 : Pos} {kt k2 : Nat} {a b : Expr} (hsc : env.scope = sc) (hb : blkFn sc = true) (ha : isStar a = false) (hb2 : isStar b = false)
    (hx : sc.names.lookup x = some .local) (hy : sc.names.lookup y = some .local) (hl : py.line = px.line) (hne : x ≠ y) (hf : (foldedForSure 8 a && foldedForSure 8 b) = false) (hc : (constantsAlone 8 a && constantsAlone 8 b) = false) :
    swappedStores [.Tuple [.Name x px, .Name y py] kt pt] (.Tuple [a, b] k2 pt2) env = pure (some [x, y]) := by
  subst hsc
  have e1 : env.kindOf x = some .local := hx
  have e2 : env.kindOf y = some .local := hy
  have e3 : env.blockKind = .function := by
    unfold blkFn at hb
    exact eq_of_beq hb
  have e4 : ([x, y] : List Str).eraseDups = [x, y] := by
    have : (y == x) = false := by simp; exact fun z => hne z.symm
    simp [List.eraseDups_cons, this]
  unfold swappedStores
  simp only [List.length_cons, List.length_nil, List.any_cons, List.any_nil, List.all_cons, List.all_nil, List.filterMap_cons, List.filterMap_nil, List.head?_cons, Option.map_some, Option.getD_some, Expr.pos, e1, e2, e3, hl]
  simp [e4, hf, hc]
  intro h
  rcases h with h | h
  · cases a <;> first | (cases h; done) | (cases ha; done)
  · cases b <;> first | (cases h; done) | (cases hb2; done)
theorem stores_par3 {sc : Scope} {env : PySem.Env} {x y z : Str} {px py pz pt pt2 : Pos} {kt k2 : Nat} {a b c : Expr} (hsc : env.scope = sc) (hb : blkFn sc = true) (ha : isStar a = false) (hb2 : isStar b = false) (hc2 : isStar c = false)
    (hx : sc.names.lookup x = some .local) (hy : sc.names.lookup y = some .local) (hz : sc.names.lookup z = some .local) (hl : py.line = px.line) (hl2 : pz.line = px.line) (hne : x ≠ y) (hne2 : x ≠ z) (hne3 : y ≠ z)
    (hf : (foldedForSure 8 a && (foldedForSure 8 b && foldedForSure 8 c)) = false) (hc : (constantsAlone 8 a && (constantsAlone 8 b && constantsAlone 8 c)) = false) :
    swappedStores [.Tuple [.Name x px, .Name y py, .Name z pz] kt pt] (.Tuple [a, b, c] k2 pt2) env = pure (some [x, y, z]) := by
  subst hsc
  have e1 : env.kindOf x = some .local := hx
  have e2 : env.kindOf y = some .local := hy
  have e0 : env.kindOf z = some .local := hz
  have e3 : env.blockKind = .function := by
    unfold blkFn at hb
    exact eq_of_beq hb
  have e4 : ([x, y, z] : List Str).eraseDups = [x, y, z] := by
    have h1 : (y == x) = false := by simp; exact fun z => hne z.symm
    have h2 : (z == x) = false := by simp; exact fun z => hne2 z.symm
    have h3 : (z == y) = false := by simp; exact fun z => hne3 z.symm
    simp [List.eraseDups_cons, h1, h2, h3]
  unfold swappedStores
  simp only [List.length_cons, List.length_nil, List.any_cons, List.any_nil, List.all_cons, List.all_nil, List.filterMap_cons, List.filterMap_nil, List.head?_cons, Option.map_some, Option.getD_some, Expr.pos, e1, e2, e0, e3, hl, hl2]
  simp [e4, hf, hc]
  intro h
  rcases h with h | h | h
  · cases a <;> first | (cases h; done) | (cases ha; done)
  · cases b <;> first | (cases h; done) | (cases hb2; done)
  · cases c <;> first | (cases h; done) | (cases hc2; done)
/-- other tuples are stored one by one -/
theorem stores_len {ts vs : List Expr} {pt pt2 : Pos} {kt k2 : Nat} {env : PySem.Env} (h : !(ts.length == 2 || ts.length == 3) || vs.length != ts.length) : swappedStores [.Tuple ts kt pt] (.Tuple vs k2 pt2) env = pure none := by
  unfold swappedStores
  simp only []
  have : ((!(ts.length == 2 || ts.length == 3) || vs.length != ts.length) || env.blockKind != .function) = true := by rw [h]; rfl
  rw [if_pos this]
theorem stores_folded {t1 t2 a b : Expr} {pt pt2 : Pos} {kt k2 : Nat} {env : PySem.Env} (hf : (foldedForSure 8 a && foldedForSure 8 b) = true) : swappedStores [.Tuple [t1, t2] kt pt] (.Tuple [a, b] k2 pt2) env = pure none := by
  unfold swappedStores
  simp only [List.length_cons, List.length_nil, List.all_cons, List.all_nil, Bool.and_true, hf]
  simp
theorem stores_folded3 {t1 t2 t3 a b c : Expr} {pt pt2 : Pos} {kt k2 : Nat} {env : PySem.Env} (hf : (foldedForSure 8 a && (foldedForSure 8 b && foldedForSure 8 c)) = true) : swappedStores [.Tuple [t1, t2, t3] kt pt] (.Tuple [a, b, c] k2 pt2) env = pure none := by
  unfold swappedStores
  simp only [List.length_cons, List.length_nil, List.all_cons, List.all_nil, Bool.and_true, hf]
  simp
/-- .. where a name is no plain local one -/
def notLoc (sc : Scope) : Expr → Bool
  | .Name x _ => sc.names.lookup x != some .local
  | _ => true
theorem fm_short {α β : Type} {f : α → Option β} : ∀ {l : List α}, (∃ x ∈ l, f x = none) → (l.filterMap f).length < l.length
  | [], ⟨x, hx, _⟩ => by cases hx
  | a :: l, ⟨x, hx, e⟩ => by
    rw [List.filterMap_cons]
    cases ha : f a with
    | none =>
      show (l.filterMap f).length < l.length + 1
      exact Nat.lt_succ_of_le (List.length_filterMap_le _ _)
    | some b =>
      have hl : x ∈ l := by
        rcases List.mem_cons.mp hx with rfl | h
        · rw [ha] at e; cases e
        · exact h
      show (l.filterMap f).length + 1 < l.length + 1
      exact Nat.succ_lt_succ (fm_short ⟨x, hl, e⟩)
theorem stores_short {ts vs : List Expr} {pt pt2 : Pos} {kt k2 : Nat} {env : PySem.Env} (h : ∃ t ∈ ts, notLoc env.scope t = true) : swappedStores [.Tuple ts kt pt] (.Tuple vs k2 pt2) env = pure none := by
  unfold swappedStores
  simp only []
  split
  · rfl
  · split
    · rfl
    · have hl : ∀ (line : Nat), ((ts.filterMap fun
        | .Name id pos => if (env.kindOf id == some .local && pos.line == line) = true then some id else none
        | _ => none).length != ts.length) = true := fun line => by
        have := fm_short (f := fun
          | .Name id pos => if (env.kindOf id == some .local && pos.line == line) = true then some id else none
          | _ => none) (l := ts) (by
            obtain ⟨t, ht, hn⟩ := h
            refine ⟨t, ht, ?_⟩
            cases t with
            | Name x p =>
              have hn : (env.scope.names.lookup x != some .local) = true := hn
              have e : (env.kindOf x == some .local) = false := by
                show (env.scope.names.lookup x == some .local) = false
                simpa using hn
              show (if (env.kindOf x == some .local && p.line == line) = true then some x else none) = none
              rw [e]; rfl
            | _ => rfl)
        exact bne_iff_ne.mpr (Nat.ne_of_lt this)
      rw [if_pos (by rw [Bool.or_eq_true]; exact .inl (hl _))]
theorem stores_cell {t1 t2 a b : Expr} {pt pt2 : Pos} {kt k2 : Nat} {env : PySem.Env} (h : (notLoc env.scope t1 || notLoc env.scope t2) = true) : swappedStores [.Tuple [t1, t2] kt pt] (.Tuple [a, b] k2 pt2) env = pure none := by
  refine stores_short ?_
  rcases Bool.or_eq_true_iff.mp h with h | h
  · exact ⟨t1, by simp, h⟩
  · exact ⟨t2, by simp, h⟩
theorem stores_cell3 {t1 t2 t3 a b c : Expr} {pt pt2 : Pos} {kt k2 : Nat} {env : PySem.Env} (h : (notLoc env.scope t1 || (notLoc env.scope t2 || notLoc env.scope t3)) = true) : swappedStores [.Tuple [t1, t2, t3] kt pt] (.Tuple [a, b, c] k2 pt2) env = pure none := by
  refine stores_short ?_
  rcases Bool.or_eq_true_iff.mp h with h | h
  · exact ⟨t1, by simp, h⟩
  · rcases Bool.or_eq_true_iff.mp h with h | h
    · exact ⟨t2, by simp, h⟩
    · exact ⟨t3, by simp, h⟩
/-- a comprehension at a name of its own line -/
def lcAt (sc : Scope) (scope : Scope) (t : Str) (pos vpos : Pos) : Bool := blkFn sc && sc.names.lookup t == some .local && pos.line == vpos.line && !(scope.names.any fun (n, k) => n == t && (k == .local || k == .cell))
theorem swaps_lc {elt : Expr} {gens : List Comprehension} {scope : Scope} {vpos pos : Pos} {t : Str} {l : Nat} {env : PySem.Env} : swapsWith (.ListComp elt gens scope vpos) (some (.Name t pos)) l env = pure (lcAt env.scope scope t pos vpos) := rfl
theorem swaps_dc {kx vx : Expr} {gens : List Comprehension} {scope : Scope} {vpos pos : Pos} {t : Str} {l : Nat} {env : PySem.Env} : swapsWith (.DictComp kx vx gens scope vpos) (some (.Name t pos)) l env = pure (lcAt env.scope scope t pos vpos) := rfl
end Bc

set_option linter.all false
set_option autoImplicit false
set_option maxRecDepth 100000
set_option maxHeartbeats 1000000
namespace Bc
open PySem PySem.Spec L2

/-- what a module's names mean -/
structure Ms where
  fns : List (Str × Nat)
  bis : List Str
  cons : List (Str × D)
  dcs : List Str
  pars : List (Nat × List Str)
structure Gx where
  m : Ms
  N : List Str
  sc : Scope
  raw : Scope
def beqD : D → D → Bool
  | .int i, .int j => i == j
  | .str i, .str j => i == j
  | .bl i, .bl j => i == j
  | .non, .non => true
  | _, _ => false
theorem beqD_eq {d e : D} (h : beqD d e = true) : d = e := by
  cases d <;> cases e <;> first | (cases h; done) | rfl | (simp [beqD] at h; rw [h])
def Gx.loc (G : Gx) (x : Str) : Bool := match G.sc.names.lookup x with
  | some .local => true
  | some .cell => G.raw.names.lookup x == some .cell
  | _ => false
/-- a block's scope within a scope -/
def relab (scope sc : Scope) : Scope := relabel scope { scope := sc, locals := 0, globals := 0, cells := [] }
theorem relab_eq {scope sc : Scope} {env : PySem.Env} (h : env.scope = sc) : relabel scope env = relab scope sc := by
  subst h; rfl
def Gx.vis (G : Gx) (x : Str) : Bool := match G.sc.names.lookup x with
  | some .local => true
  | some .cell => true
  | some .free => true
  | _ => false
def Gx.glo (G : Gx) (x : Str) : Bool := match G.sc.names.lookup x with
  | some .globalImplicit => true
  | _ => false
def nmOk (x : Str) : Bool := !(x == ("__debug__" : Str)) && !(x == ("__classdict__" : Str))
def Gx.slot (G : Gx) (i : Nat) (x : Str) : Bool := (G.N[i]? == some x) && G.vis x && nmOk x
def Gx.set (G : Gx) (i : Nat) (x : Str) : Bool := (G.N[i]? == some x) && G.loc x
def Gx.bi (G : Gx) (x : Str) : Bool := G.glo x && G.m.bis.contains x
def Gx.fn (G : Gx) (f : Nat) (x : Str) : Bool := G.glo x && (G.m.fns.lookup x == some f) && nmOk x
def Gx.at (G : Gx) (sc : Scope) : Gx := { G with sc := relab sc G.sc, raw := sc }
def Gx.own (G : Gx) (own : List Nat) : List (Str × Nat) := own.map fun i => (G.N.getD i Str.empty, i)
def bfName : Bf → Str
  | .len => "len"
  | .abs => "abs"
  | .min2 => "min"
  | .max2 => "max"
  | .int1 => "int"
  | .bool1 => "bool"
  | .sum => "sum"
  | .any => "any"
  | .all => "all"
  | .tuple => "tuple"
  | .list => "list"
  | .sorted => "sorted"
  | .str1 => "str"
  | .divmod => "divmod"
def tyName : Ty → Str
  | .int => "int"
  | .bool => "bool"
  | .str => "str"
  | .tuple => "tuple"
  | .list => "list"
  | .dict => "dict"
  | .cls _ => "?"
def isCls : Ty → Bool
  | .cls _ => true
  | _ => false
def binOk : Operator → Bool
  | .Add => true
  | .Sub => true
  | .Mult => true
  | .FloorDiv => true
  | .Mod => true
  | .Pow => true
  | .RShift => true
  | .BitAnd => true
  | .BitOr => true
  | .BitXor => true
  | _ => false
def strip : Expr → Expr
  | .BoolOp _ [x] _ => x
  | e => e

mutual
/-- the tree e is what the evaluator's t says; m: 0 a value, 1 a value that is used at once, 2 a test -/
def chk : E → Gx → Nat → Expr → Bool
  | .nev, G, m, e => true
  | .kget t a b, G, m, e => (match strip e with
    | .Call (.Attribute (.Name x _) nm apos) [u, v] [] pos => (nm == ("get" : Str)) && (x == t) && G.glo x && nmOk x && G.m.dcs.contains x && !isStar u && !isStar v && (apos.endLine == pos.line) && chk a G 1 u && chk b G 0 v
    | _ => false)
  | .dcT _ _ _ _ _ _ _, G, m, e => false
  | .var i, G, m, e => (match strip e with
    | .Name x _ => G.slot i x
    | _ => false)
  | .own i, G, m, e => (match strip e with
    | .Name x _ => m != 0 && G.slot i x
    | _ => false)
  | .int i, G, m, e => (match strip e with
    | .Constant (.int j) _ _ => i == j
    | _ => false)
  | .bl i, G, m, e => (match strip e with
    | .Constant (.bool j) _ _ => i == j
    | _ => false)
  | .non, G, m, e => (match strip e with
    | .Constant .none _ _ => true
    | _ => false)
  | .str i, G, m, e => (match strip e with
    | .Constant (.str j) _ _ => i == j
    | _ => false)
  | .glob d, G, m, e => (match strip e with
    | .Name x _ => G.glo x && nmOk x && (match G.m.cons.lookup x with
      | some d' => beqD d' d
      | none => false)
    | _ => false)
  | .bin o a b, G, m, e => (match strip e with
    | .BinOp x o' y _ => binOk o && (o' == o) && chk a G 1 x && chk b G 1 y
    | _ => false)
  | .neg a, G, m, e => (match strip e with
    | .UnaryOp .USub x _ => chk a G 1 x
    | _ => false)
  | .inv a, G, m, e => (match strip e with
    | .UnaryOp .Invert x _ => chk a G 1 x
    | _ => false)
  | .not a, G, m, e => (match strip e with
    | .UnaryOp .Not x _ => if m == 2 then chk a G 2 x else chk a G 1 x
    | _ => false)
  | .cmp o a b, G, m, e => (match strip e with
    | .Compare x [o'] [y] _ => (o' == o) && !isSet y && chk a G 1 x && chk b G 1 y
    | _ => false)
  | .cmp2 o1 o2 a b c, G, m, e => (match strip e with
    | .Compare x [o1', o2'] [y, z] _ => (o1' == o1) && (o2' == o2) && !isSet z && chk a G 1 x && chk b G 1 y && chk c G 1 z
    | _ => false)
  | .and a b, G, m, e => (match strip e with
    | .BoolOp .And (x :: y :: r) p => if m == 2 then chk a G 2 x && chk b G 2 (.BoolOp .And (y :: r) p) else chk a G 0 x && chk b G 0 (.BoolOp .And (y :: r) p)
    | _ => false)
  | .or a b, G, m, e => (match strip e with
    | .BoolOp .Or (x :: y :: r) p => if m == 2 then chk a G 2 x && chk b G 2 (.BoolOp .Or (y :: r) p) else chk a G 0 x && chk b G 0 (.BoolOp .Or (y :: r) p)
    | _ => false)
  | .ite t a b, G, m, e => (match strip e with
    | .IfExp x y z _ => m != 2 && chk t G 2 x && chk a G m y && chk b G m z
    | _ => false)
  | .tup es, G, m, e => (match strip e with
    | .Tuple xs _ _ => chks es G 0 xs
    | _ => false)
  | .lst es, G, m, e => (match strip e with
    | .List xs _ => chks es G 0 xs
    | _ => false)
  | .sub a i, G, m, e => (match strip e with
    | .Subscript x y _ => !isSlice y && chk a G 1 x && chk i G 1 y
    | _ => false)
  | .slice a lo hi, G, m, e => (match strip e with
    | .Subscript x (.Slice l h none _) _ => chk a G 1 x && chkO lo G l && chkO hi G h
    | _ => false)
  | .rev a s, G, m, e => (match strip e with
    | .Subscript x (.Slice none none (some st) _) _ => chk a G 1 x && chkO s G (some st)
    | _ => false)
  | .call f es, G, m, e => (match strip e with
    | .Call (.Name x _) (y :: ys) [] _ => G.fn f x && !isStar y && !ys.any isStar && chks es G 0 (y :: ys)
    | _ => false)
  | .callB f es, G, m, e => (match strip e with
    | .Call (.Name x _) (y :: ys) [] _ => G.fn f x && !isStar y && !ys.any isStar && chks es G 1 (y :: ys)
    | _ => false)
  | .call0 f, G, m, e => (match strip e with
    | .Call (.Name x _) [] [] _ => G.fn f x
    | _ => false)
  | .callR f a b, G, m, e => (match strip e with
    | .Call (.Name x _) [] [⟨some k1, u, _⟩, ⟨some k2, v, _⟩] _ => G.fn f x && (G.m.pars.lookup f == some [k2, k1]) && !(k1 == k2) && chk a G 0 u && chk b G 0 v
    | _ => false)
  | .isi a ts, G, m, e => (match strip e, ts with
    | .Call (.Name x _) [y, .Name z _] [] _, [T] => (x == ("isinstance" : Str)) && G.bi x && G.bi z && (z == tyName T) && !isCls T && !isStar y && chk a G 1 y
    | _, _ => false)
  | .bi b es, G, m, e => (match strip e with
    | .Call (.Name x _) (y :: ys) [] _ => (x == bfName b) && G.bi x && !isStar y && !ys.any isStar && chks es G 1 (y :: ys)
    | _ => false)
  | .bm b a es, G, m, e => (match strip e, b, es with
    | .Call (.Attribute y nm apos) [] [] pos, .bitLength, .nil => (nm == ("bit_length" : Str)) && !isSup y && (apos.endLine == pos.line) && chk a G 1 y
    | .Call (.Attribute y nm apos) [z] [] pos, .index, .cons f .nil => (nm == ("index" : Str)) && !isSup y && !isStar z && (apos.endLine == pos.line) && chk a G 1 y && chk f G 1 z
    | _, _, _ => false)
  | .lc t k it cs b own, G, m, e => (match strip e with
    | .ListComp elt [⟨tg, iter, ifs, 0⟩] scope _ => blkC G.N G.sc scope (G.own own) && !isSet iter && (tvs t).all (own.contains ·) && chkI it k G true tg iter && chkT t (G.at scope) tg && chkCs cs (G.at scope) ifs && chk b (G.at scope) 0 elt
    | _ => false)
  | .lc2 t k it cs t1 k1 it1 cs1 b own own1, G, m, e => (match strip e with
    | .ListComp elt [⟨tg, iter, ifs, 0⟩, ⟨tg1, iter1, ifs1, 0⟩] scope _ => blkC G.N G.sc scope (G.own own) && !isSet iter && !isSet iter1 && (tvs t).all (own.contains ·) && own1.all (own.contains ·) && (tvs t1).all (own1.contains ·) && chkI it k G true tg iter && chkT t (G.at scope) tg && chkCs cs (G.at scope) ifs &&
        chkI it1 k1 (G.at scope) false tg1 iter1 && chkT t1 (G.at scope) tg1 && chkCs cs1 (G.at scope) ifs1 && chk b (G.at scope) 0 elt
    | _ => false)
  | .fld _ _, _, _, _ => false
  | .make _ _, _, _, _ => false
def chks : Es → Gx → Nat → List Expr → Bool
  | .nil, G, m, es => es.isEmpty
  | .cons t r, G, m, es => (match es with
    | e :: rest => !isStar e && chk t G m e && chks r G m rest
    | [] => false)
  | .star t r, G, m, es => (match es with
    | .Starred x _ :: rest => chk t G 1 x && chks r G m rest
    | _ => false)
def chkO : Op → Gx → Option Expr → Bool
  | .no, G, e => e.isNone
  | .ex t, G, e => (match e with
    | some x => chk t G 1 x
    | none => false)
/-- a comprehension's tests: one at most -/
def chkCs : Es → Gx → List Expr → Bool
  | .nil, G, es => es.isEmpty
  | .cons t r, G, es => (match es, r with
    | [e], .nil => chk t G 2 e
    | _, _ => false)
  | .star _ _, _, _ => false
/-- a walk; tr: what it walks may be used at once -/
def chkI : Es → Itb → Gx → Bool → Expr → Expr → Bool
  | .nil, _, _, _, _, _ => false
  | .star _ _, _, _, _, _, _ => false
  | .cons t r, k, G, tr, tg, e => (match k, r with
    | .seq, .nil => chk t G (if tr then 1 else 0) e
    | .rev, .nil => (match e with
      | .Call (.Name x _) [a] [] _ => (x == ("reversed" : Str)) && G.bi x && !isStar a && chk t G (if tr then 1 else 0) a
      | _ => false)
    | .range1, .nil => (match e with
      | .Call (.Name x _) [a] [] _ => (x == ("range" : Str)) && G.bi x && !isStar a && chk t G (if tr then 1 else 0) a
      | _ => false)
    | .range2, .cons u .nil => (match e with
      | .Call (.Name x _) [a, b] [] _ => (x == ("range" : Str)) && G.bi x && !isStar a && !isStar b && chk t G (if tr then 1 else 0) a && chk u G (if tr then 1 else 0) b
      | _ => false)
    | .range3, .cons u (.cons v .nil) => (match e with
      | .Call (.Name x _) [a, b, c] [] _ => (x == ("range" : Str)) && G.bi x && !isStar a && !isStar b && !isStar c && chk t G (if tr then 1 else 0) a && chk u G (if tr then 1 else 0) b && chk v G (if tr then 1 else 0) c
      | _ => false)
    | .enum, .nil => (match tg, e with
      | .Tuple _ _ _, .Call (.Name x _) [a] [] _ => (x == ("enumerate" : Str)) && G.bi x && !isStar a && chk t G (if tr then 1 else 0) a
      | _, _ => false)
    | .zip, .cons u .nil => (match tg, e with
      | .Tuple _ _ _, .Call (.Name x _) [a, b] [] _ => (x == ("zip" : Str)) && G.bi x && !isStar a && !isStar b && chk t G (if tr then 1 else 0) a && chk u G (if tr then 1 else 0) b
      | _, _ => false)
    | _, _ => false)
def chkT : T → Gx → Expr → Bool
  | .nm i, G, e => (match e with
    | .Name x _ => G.set i x
    | _ => false)
  | .tp ts, G, e => (match e with
    | .Tuple es _ _ => chkTs ts G es
    | _ => false)
  | .sub a k, G, e => (match e with
    | .Subscript x y _ => !isSlice y && chk a G 1 x && chk k G 1 y
    | _ => false)
def chkTs : Ts → Gx → List Expr → Bool
  | .nil, G, es => es.isEmpty
  | .cons t r, G, es => (match es with
    | e :: rest => !isStar e && chkT t G e && chkTs r G rest
    | [] => false)
end

/-- what holds of a body's context -/
structure Cok (X : Sx) (cl : Cl) (G : Gx) (W : WD) (C : Cx) : Prop where
  hK : X.K = C.K
  hN : C.N = G.N
  nd : C.N.Nodup
  sc : C.env.scope = G.sc
  calm : C.calm = true
  fn : ∀ x, G.raw.names.lookup x = some .cell → C.fn x = true
  un : C.A.units + 65 < cLine
  wx : ∃ Wx, Takes C Wx ∧ ∀ c fs s σ H R, W c fs s σ H R → wX X Wx c fs s σ H R
  fns : ∀ x f, G.m.fns.lookup x = some f → ∃ (addr : Addr) (fd : FuncData) (ps : List Str) (k : Nat), C.mg x = some (.ref addr) ∧ PySem.W.keepIn C.K (.ref addr) = true ∧ Binds C.K fd ps [] ∧ Room k C.A ∧ FnOk C.prog C.w C.K C.mg C.base (L2.CX C.prog C.w) k addr fd ps (spF X (cl.call f)) ∧ ∀ k1 k2, G.m.pars.lookup f = some [k2, k1] → k1 ≠ k2 → BindsR fd ps k1 k2
  bis : ∀ x, x ∈ G.m.bis → C.mg x = none
  cons : ∀ x d, G.m.cons.lookup x = some d → ∃ (v : V) (u : Value), C.mg x = some u ∧ RelV v u ∧ ∀ R, Rep X R v d
  dcs : ∀ x, x ∈ G.m.dcs → ∃ p, C.mg x = some (.ref p) ∧ KTab X C.K C.w p (cl.tab x)
end Bc

set_option linter.all false
set_option autoImplicit false
set_option maxRecDepth 100000
set_option maxHeartbeats 1000000
namespace Bc
open PySem PySem.Spec L2

section
variable {X : Sx} {W : WD} {C : Cx} {cl : Cl} {G : Gx} {pos : Pos}
/-! ### tables -/
theorem bin_tab (hK : X.K = C.K) {o : Operator} (h : binOk o = true) : ∃ r, OpR C (binaryOp o) r ∧ Op2 X r (binD o) := by
  cases o with
  | Add => exact ⟨_, op_add4, hK ▸ g_add⟩
  | Sub => exact ⟨_, op_sub, g_sub⟩
  | Mult => exact ⟨_, op_mul2, hK ▸ g_mul⟩
  | FloorDiv => exact ⟨_, op_fdivQ, g_fdiv⟩
  | Mod => exact ⟨_, op_mod, g_mod⟩
  | Pow => exact ⟨_, op_pow, g_pow⟩
  | RShift => exact ⟨_, op_shr, g_shr⟩
  | BitAnd => exact ⟨_, op_and, g_band⟩
  | BitOr => exact ⟨_, op_or, g_bor⟩
  | BitXor => exact ⟨_, op_xor, g_bxor⟩
  | Div => cases h
  | MatMult => cases h
  | LShift => cases h
theorem cmp_tab (hK : X.K = C.K) (hu : C.A.units + 65 < cLine) (o : CmpOp) : ∃ r, OpR C (compareOp o) r ∧ Op2 X r (cmpD o) := by
  cases o with
  | Eq => exact ⟨_, op_eqD (by omega), hK ▸ g_eq⟩
  | NotEq => exact ⟨_, op_neD (by omega), hK ▸ g_ne⟩
  | Lt => exact ⟨_, op_lt3 (by omega), hK ▸ g_lt⟩
  | LtE => exact ⟨_, op_le, g_le⟩
  | Gt => exact ⟨_, op_gt, g_gt⟩
  | GtE => exact ⟨_, op_ge, g_ge⟩
  | In => exact ⟨_, op_in3 hu, hK ▸ g_in⟩
  | NotIn => exact ⟨_, op_notIn3 hu, hK ▸ g_notIn⟩
  | Is => exact ⟨_, op_is2, g_is⟩
  | IsNot => exact ⟨_, op_not2, g_isNot⟩
theorem bf_tab (hK : X.K = C.K) (hc : C.calm = true) (b : Bf) : (∃ (id : String) (r : List V → Hp → VK → Prop), CallR C (.builtin id) r ∧ FnR X r (bfD b) ∧ bootBuiltins (bfName b) = some (.builtin id)) ∨ ∃ (T : String) (r : List V → Hp → VK → Prop), CallR C (.type T) r ∧ FnR X r (bfD b) ∧ bootBuiltins (bfName b) = some (.type T) := by
  cases b with
  | len => exact .inl ⟨_, _, call_len, hK ▸ b_len, PySem.boot_len⟩
  | abs => exact .inl ⟨_, _, call_abs, b_abs, PyProof.Rows.boot_abs⟩
  | min2 => exact .inl ⟨_, _, call_min2 hc, b_min, PyProof.Rows.boot_min⟩
  | max2 => exact .inl ⟨_, _, call_max2 hc, b_max, PyProof.Rows.boot_max⟩
  | int1 => exact .inr ⟨_, _, call_int1, b_int, PyProof.Rows.boot_int⟩
  | bool1 => exact .inr ⟨_, _, call_bool1, b_bool, PyProof.Rows.boot_bool⟩
  | sum => exact .inl ⟨_, _, cr_sum hc, hK ▸ b_sum, PyProof.Rows.boot_sum⟩
  | any => exact .inl ⟨_, _, cr_any hc, hK ▸ b_any, PyProof.Rows.boot_any⟩
  | all => exact .inl ⟨_, _, cr_all hc, hK ▸ b_all, PyProof.Rows.boot_all⟩
  | tuple => exact .inr ⟨_, _, call_tuple_of, hK ▸ b_tuple, PyProof.Rows.boot_tuple⟩
  | list => exact .inr ⟨_, _, call_list_of, hK ▸ b_list, PyProof.Rows.boot_list⟩
  | sorted => exact .inl ⟨_, _, cr_sort2, hK ▸ b_sorted, PyProof.Rows.boot_sorted⟩
  | str1 => exact .inr ⟨_, _, call_str_int.or SkE.call_str_str, b_str, PyProof.Rows.boot_str⟩
  | divmod => exact .inl ⟨_, _, call_divmodW, b_divmod, PyProof.Rows.boot_divmod⟩
theorem bf_name (b : Bf) : bfName b ≠ "__name__" ∧ (bfName b == ("__debug__" : Str)) = false := by cases b <;> decide +kernel
theorem ty_boot {t : Ty} (h : isCls t = false) : bootBuiltins (tyName t) = some (.type t.name) ∧ tyName t ≠ "__name__" ∧ (tyName t == ("__debug__" : Str)) = false := by
  cases t with
  | int => exact ⟨PyProof.Rows.boot_int, by decide +kernel, by decide +kernel⟩
  | bool => exact ⟨PyProof.Rows.boot_bool, by decide +kernel, by decide +kernel⟩
  | str => exact ⟨PyProof.Rows.boot_str, by decide +kernel, by decide +kernel⟩
  | tuple => exact ⟨PyProof.Rows.boot_tuple, by decide +kernel, by decide +kernel⟩
  | list => exact ⟨PyProof.Rows.boot_list, by decide +kernel, by decide +kernel⟩
  | dict => exact ⟨PyProof.Rows.boot_dict, by decide +kernel, by decide +kernel⟩
  | cls c => cases h
/-! ### list.index -/
theorem dx_index {a z : Expr} {ea ef : E} {apos : Pos} (hK : X.K = C.K) (hu : C.A.units + 65 < cLine) (ha : PE C a (tT X W (evE cl ea))) (hz : PA C [z] (tTs X W (evEs cl (.cons ef .nil)))) (hsz : isStar z = false) (hsa : isSup a = false) (hline : (apos.endLine == pos.line) = true) :
    PE C (.Call (.Attribute a "index" apos) [z] [] pos) (tD X W (evE cl (.bm .index ea (.cons ef .nil)))) := by
  refine (pe_bm PySem.F.plainAttrs_list PySem.F.slot_list_index PySem.F.type_list_index (mt_indexD hu) ha hz (base_no hsa) (by rw [starEach_one hsz]; rfl) hline (starEach_one hsz) rfl).weak fun σ H Q ⟨R, env, sto, S, E, o⟩ => ?_
  unfold evE at o
  refine useT S E o fun v H1 R1 d s1 g1 S1 E1 r1 o1 => ?_
  have ⟨ds, s2, e2, o2⟩ : ∃ ds s2, evEs cl (.cons ef .nil) env s1 = .ok (ds, s2) ∧ Out (wE X W R H σ) (mIndex d ds s2) (fun d s' => ∀ (v : V) (H' : Hp) (R' : Rl), Grow R H R' H' → StOk X R' H' s' → Rep X R' v d → Q v H') := by
    have o2 := Out.noX (W' := noW) (Out.bind o1)
    cases e : evEs cl (.cons ef .nil) env s1 with
    | ok p => rw [e] at o2; exact ⟨p.1, p.2, rfl, o2⟩
    | exc _ _ _ => rw [e] at o2; exact o2.elim
    | stuck => rw [e] at o2; exact o2.elim
  unfold mIndex at o2
  split at o2 <;> first | exact (Out.stuck' o2).elim | skip
  rename_i b xs y
  obtain ⟨dy, ey, o2⟩ := o2.ofOptB
  obtain ⟨es, ees, o2⟩ := o2.ofOptB
  obtain ⟨hs, o2⟩ := o2.needB
  obtain ⟨j, ej, o2⟩ := o2.ofOptB
  obtain ⟨hs1, hs2⟩ := Bool.and_eq_true_iff.mp hs
  obtain ⟨p, vs, rfl, h, rs⟩ := r1.lst S1
  refine ⟨.inl ⟨rfl, vs, .of h⟩, R1, env, s1, S1, E1, out_ok e2 fun ws H2 R2 g2 S2 r2 => ?_⟩
  obtain ⟨w, rfl, r3⟩ := r2.one
  have hd : Dp X.K H2 (.ref p) (.list es) := (r1.grow g2).dp S2 (by unfold toPy; rw [ees]; rfl)
  have hy : Dp X.K H2 w dy := r3.dp S2 ey
  obtain ⟨hj, hp, hno⟩ := List.findIdx?_eq_some_iff_getElem.mp ej
  refine ⟨p, w, dy, es, j, es[j], rfl, rfl, hK ▸ hd, hK ▸ hy, hs2, hs1, by simp [hj], hp, fun m z' hm hz => ?_, Out.pure o2 _ H2 R2 (g1.trans g2) S2 (.int _)⟩
  have hm2 : m < es.length := by omega
  rw [List.getElem?_eq_getElem hm2] at hz
  cases hz
  have := hno m hm
  simpa using this

/-! ### soundness of the check -/
theorem _root_.L2.PE.cD {e : Expr} {f g : Env → M D} (h : PE C e (tD X W f)) (eq : ∀ env, g env = f env) : PE C e (tD X W g) := by
  have : g = f := funext eq
  rw [this]; exact h
theorem _root_.L2.PE.cT {e : Expr} {f g : Env → M D} (h : PE C e (tT X W f)) (eq : ∀ env, g env = f env) : PE C e (tT X W g) := by
  have : g = f := funext eq
  rw [this]; exact h
theorem _root_.L2.PT.cB {e : Expr} {f g : Env → M Bool} (h : PT C e (tB X W f)) (eq : ∀ env, g env = f env) : PT C e (tB X W g) := by
  have : g = f := funext eq
  rw [this]; exact h
theorem _root_.L2.PW.cB {e : Expr} {f g : Env → M Bool} (h : PW C e (tB X W f)) (eq : ∀ env, g env = f env) : PW C e (tB X W g) := by
  have : g = f := funext eq
  rw [this]; exact h
theorem _root_.L2.PA.cD {e : List Expr} {f g : Env → M (List D)} (h : PA C e (tDs X W f)) (eq : ∀ env, g env = f env) : PA C e (tDs X W g) := by
  have : g = f := funext eq
  rw [this]; exact h
theorem _root_.L2.PA.cT {e : List Expr} {f g : Env → M (List D)} (h : PA C e (tTs X W f)) (eq : ∀ env, g env = f env) : PA C e (tTs X W g) := by
  have : g = f := funext eq
  rw [this]; exact h
theorem PI.cI {tg e : Expr} {tr : Bool} {f g : Env → M (List D)} (h : PI C tg e (tI X W tr f)) (eq : ∀ env, g env = f env) : PI C tg e (tI X W tr g) := by
  have : g = f := funext eq
  rw [this]; exact h
def Sat (X : Sx) (W : WD) (C : Cx) (cl : Cl) (m : Nat) (e : Expr) (t : E) : Prop :=
  (m = 0 → PE C e (tD X W (evE cl t))) ∧ (m = 1 → PE C e (tT X W (evE cl t))) ∧ (m = 2 → PT C e (tB X W fun env => (evE cl t env).bind truM) ∧ ∀ op xs p, e = .BoolOp op xs p → PW C e (tB X W fun env => (evE cl t env).bind truM))
theorem strip_cases (e : Expr) : (∃ op x p, e = .BoolOp op [x] p ∧ strip e = x) ∨ strip e = e := by
  cases e with
  | BoolOp op xs p =>
    cases xs with
    | nil => exact .inr rfl
    | cons x r => cases r with
      | nil => exact .inl ⟨op, x, p, rfl, rfl⟩
      | cons y r => exact .inr rfl
  | _ => exact .inr rfl
theorem sat_mk {m : Nat} {e : Expr} {t : E} (h0 : m = 0 → PE C (strip e) (tD X W (evE cl t))) (h1 : m = 1 → PE C (strip e) (tT X W (evE cl t)))
    (h2 : m = 2 → PT C (strip e) (tB X W fun env => (evE cl t env).bind truM) ∧ ∀ op xs p, strip e = .BoolOp op xs p → PW C (strip e) (tB X W fun env => (evE cl t env).bind truM)) : Sat X W C cl m e t := by
  rcases strip_cases e with ⟨op, x, p, rfl, hs⟩ | hs
  · rw [hs] at h0 h1 h2
    refine ⟨fun z => pe_one (h0 z), fun z => pe_one (h1 z), fun z => ?_⟩
    have w : PW C (.BoolOp op [x] p) (tB X W fun env => (evE cl t env).bind truM) := dw_one (h2 z).1
    exact ⟨w.pt, fun _ _ _ _ => w⟩
  · rw [hs] at h0 h1 h2
    exact ⟨h0, h1, h2⟩
theorem sat_val {m : Nat} {e e' : Expr} {t : E} (hK : X.K = C.K) (he : strip e = e') (h : PE C e' (tD X W (evE cl t))) (ht : isTest e' = false) : Sat X W C cl m e t := by
  subst he
  refine sat_mk (fun _ => h) (fun _ => h.anyT) fun _ => ⟨dt_plain hK h.anyT (true_no ht), fun op xs p z => ?_⟩
  rw [z] at ht; cases ht
theorem sat_tr {m : Nat} {e e' : Expr} {t : E} (hK : X.K = C.K) (he : strip e = e') (h : PE C e' (tT X W (evE cl t))) (ht : isTest e' = false) (hm : m ≠ 0) : Sat X W C cl m e t := by
  subst he
  refine sat_mk (fun z => absurd z hm) (fun _ => h) fun _ => ⟨dt_plain hK h (true_no ht), fun op xs p z => ?_⟩
  rw [z] at ht; cases ht
theorem sat_cmp {m : Nat} {e e' : Expr} {t : E} (he : strip e = e') (h : PE C e' (tD X W (evE cl t))) (h2 : PT C e' (tB X W fun env => (evE cl t env).bind truM)) (hb : ∀ op xs p, e' ≠ .BoolOp op xs p) : Sat X W C cl m e t := by
  subst he
  exact sat_mk (fun _ => h) (fun _ => h.anyT) fun _ => ⟨h2, fun op xs p z => absurd z (hb op xs p)⟩
theorem Gx.slot_ok (k : Cok X cl G W C) {i : Nat} {x : Str} (h : G.slot i x = true) : C.N[i]? = some x ∧ Vis C.env.scope x ∧ (x == ("__debug__" : Str)) = false ∧ (x == ("__classdict__" : Str)) = false := by
  unfold Gx.slot nmOk at h
  simp only [Bool.and_eq_true, beq_iff_eq, Bool.not_eq_true'] at h
  obtain ⟨⟨h1, h2⟩, h3, h4⟩ := h
  refine ⟨by rw [k.hN]; exact h1, ?_, h3, h4⟩
  unfold Gx.vis at h2
  unfold Vis
  rw [k.sc]
  split at h2
  · rename_i e; exact .inl e
  · rename_i e; exact .inr (.inl e)
  · rename_i e; exact .inr (.inr e)
  · cases h2
theorem Gx.set_ok (k : Cok X cl G W C) {i : Nat} {x : Str} (h : G.set i x = true) : C.N[i]? = some x ∧ L2.Loc C.env.scope x ∧ (C.fn x = true ∨ C.env.scope.names.lookup x = some .local) := by
  unfold Gx.set at h
  simp only [Bool.and_eq_true, beq_iff_eq] at h
  obtain ⟨h1, h2⟩ := h
  unfold Gx.loc at h2
  unfold L2.Loc
  refine ⟨by rw [k.hN]; exact h1, ?_⟩
  have kf := k.fn x
  rw [k.sc]
  split at h2
  · rename_i e; exact ⟨.inl e, .inr e⟩
  · rename_i e; exact ⟨.inr e, .inl (kf (eq_of_beq h2))⟩
  · cases h2
theorem Gx.glo_ok (k : Cok X cl G W C) {x : Str} (h : G.glo x = true) : Gl C x := by
  unfold Gx.glo at h
  show C.env.scope.names.lookup x = _
  rw [k.sc]
  split at h
  · assumption
  · cases h
theorem Gx.bi_ok (k : Cok X cl G W C) {x : Str} (h : G.bi x = true) : Gl C x ∧ C.mg x = none := by
  unfold Gx.bi at h
  obtain ⟨h1, h2⟩ := Bool.and_eq_true_iff.mp h
  exact ⟨Gx.glo_ok k h1, k.bis x (by simpa using h2)⟩
theorem notStar {b : Bool} (h : (!b) = true) : b = false := by simpa using h
end
end Bc

set_option linter.all false
set_option autoImplicit false
set_option maxRecDepth 100000
set_option maxHeartbeats 2000000
namespace Bc
open PySem PySem.Spec L2

section
variable {X : Sx} {W : WD} {C : Cx} {cl : Cl} {G : Gx} {pos : Pos}
theorem and3 {a b : Bool} (h : (a && b) = true) : a = true ∧ b = true := Bool.and_eq_true_iff.mp h
/-- a block's context -/
theorem Cok.blk (k : Cok X cl G W C) (s : Shared) (H : Hp) (scope : Scope) (A : Addr) (c : List (Str × Addr)) (fp : List Addr) : Cok X cl (G.at scope) W0 (Cb C s H scope A c fp) where
  hK := k.hK
  hN := k.hN
  nd := k.nd
  sc := relab_eq k.sc
  calm := k.calm
  fn := fun x h => by
    show (scope.names.lookup x == some .cell) = true
    have h : scope.names.lookup x = some .cell := h
    rw [h]; rfl
  un := k.un
  wx := ⟨fun _ _ _ _ => False, takes0, fun _ _ _ _ _ _ z => z.elim⟩
  fns := k.fns
  bis := k.bis
  cons := k.cons
  dcs := k.dcs
def SatA (X : Sx) (W : WD) (C : Cx) (cl : Cl) (m : Nat) (es : List Expr) (t : Es) : Prop := (m = 0 → PA C es (tDs X W (evEs cl t))) ∧ (m = 1 → PA C es (tTs X W (evEs cl t)))
theorem SatA.x {m : Nat} {es : List Expr} {t : Es} {tr : Bool} (h : SatA X W C cl m es t) (hm : m = if tr then 1 else 0) : PA C es (tXs X W tr (evEs cl t)) := by
  cases tr with
  | true => exact h.2 hm
  | false => exact h.1 hm
theorem Sat.x {m : Nat} {e : Expr} {t : E} {tr : Bool} (h : Sat X W C cl m e t) (hm : m = if tr then 1 else 0) : PE C e (tX X W tr (evE cl t)) := by
  cases tr with
  | true => exact h.2.1 hm
  | false => exact h.1 hm
theorem own_map (G : Gx) (own : List Nat) : (G.own own).map (·.2) = own := by
  unfold Gx.own
  rw [List.map_map]
  show own.map (fun i => i) = own
  exact List.map_id' own
theorem all_mem {xs ys : List Nat} (h : xs.all (ys.contains ·) = true) : ∀ n ∈ xs, n ∈ ys := fun n hn => by
  have := List.all_eq_true.mp h n hn
  simpa using this
theorem assigns_len {es : List Expr} {env : PySem.Env} : (assignEach es env).length = es.length := by
  induction es with
  | nil => rfl
  | cons e es ih => cases e <;> simp [assignEach, ih]
theorem Gx.fn_ok (k : Cok X cl G W C) {f : Nat} {x : Str} (h : G.fn f x = true) : Gl C x ∧ G.m.fns.lookup x = some f ∧ (x == ("__debug__" : Str)) = false := by
  unfold Gx.fn nmOk at h
  obtain ⟨h, h3⟩ := and3 h
  obtain ⟨h1, h2⟩ := and3 h
  exact ⟨Gx.glo_ok k h1, eq_of_beq h2, notStar (and3 h3).1⟩
theorem dcs_nil : PTs C [] (tB X W fun _ => M.pure true) := ⟨fun pins s σ H Q I ⟨R, env, sto, S, E, o⟩ => pts_nil.run pins s σ H Q I (Out.pure o H R (Grow.refl _ _) S)⟩
theorem assign_sub {x y : Expr} {p : Pos} {env : PySem.Env} (h : isSlice y = false) (v : Value) : assign (.Subscript x y p) env v = (do
      let ov ← holding [v] (eval x env)
      let iv ← holding [v, ov] (eval y env)
      standAt p
      holding [v, ov, iv] (setItem ov iv v)
      release [v, ov, iv] []) := by
  cases y <;> first | rfl | (cases h; done)
theorem assign_all {e : Expr} {es : List Expr} {env : PySem.Env} (h : isStar e = false) : assignEach (e :: es) env = (false, assign e env) :: assignEach es env := by
  cases e <;> first | rfl | (cases h; done)
mutual
theorem chk_ok : ∀ (t : E) {G : Gx} {C : Cx} {W : WD} {m : Nat} {e : Expr}, Cok X cl G W C → chk t G m e = true → Sat X W C cl m e t
  | .var i, G, C, W, m, e, k, h => by
    unfold chk at h
    split at h <;> first | (cases h; done) | skip
    rename_i x p he
    obtain ⟨h1, h2, h3, h4⟩ := Gx.slot_ok k h
    exact sat_val k.hK he (dx_var cl h1 h2 h3 h4) rfl
  | .own i, G, C, W, m, e, k, h => by
    unfold chk at h
    split at h <;> first | (cases h; done) | skip
    rename_i x p he
    obtain ⟨hm, h⟩ := and3 h
    obtain ⟨h1, h2, h3, h4⟩ := Gx.slot_ok k h
    exact sat_tr k.hK he (dx_own cl h1 h2 h3 h4) rfl (by simpa using hm)
  | .int i, G, C, W, m, e, k, h => by
    unfold chk at h
    split at h <;> first | (cases h; done) | skip
    rename_i j _ _ he
    have h := eq_of_beq h
    subst h
    exact sat_val k.hK he (PE.cD (dx_int) fun env => by rw [evE] <;> rfl) rfl
  | .bl i, G, C, W, m, e, k, h => by
    unfold chk at h
    split at h <;> first | (cases h; done) | skip
    rename_i j _ _ he
    have h := eq_of_beq h
    subst h
    exact sat_val k.hK he (PE.cD (dx_bl) fun env => by rw [evE] <;> rfl) rfl
  | .non, G, C, W, m, e, k, h => by
    unfold chk at h
    split at h <;> first | (cases h; done) | skip
    rename_i he
    exact sat_val k.hK he (PE.cD (dx_non) fun env => by rw [evE] <;> rfl) rfl
  | .str i, G, C, W, m, e, k, h => by
    unfold chk at h
    split at h <;> first | (cases h; done) | skip
    rename_i j _ _ he
    have h := eq_of_beq h
    subst h
    exact sat_val k.hK he (PE.cD (dx_str) fun env => by rw [evE] <;> rfl) rfl
  | .glob d, G, C, W, m, e, k, h => by
    unfold chk at h
    split at h <;> first | (cases h; done) | skip
    rename_i x p he
    obtain ⟨h0, h2⟩ := and3 h
    obtain ⟨h0, h1⟩ := and3 h0
    split at h2 <;> first | (cases h2; done) | skip
    rename_i d' hd
    have e := beqD_eq h2
    subst e
    obtain ⟨v, u, hm, r, rep⟩ := k.cons x _ hd
    have hdb : (x == ("__debug__" : Str)) = false := by
      unfold nmOk at h1
      have := (and3 h1).1
      simpa using this
    refine sat_val k.hK he ((pe_glob (Gx.glo_ok k h0) hm r hdb).weak fun σ H Q ⟨R, env, sto, S, E, o⟩ => ?_) rfl
    unfold evE at o
    exact o.pure v H R (Grow.refl _ _) S (rep R)
  | .bin o a b, G, C, W, m, e, k, h => by
    unfold chk at h
    split at h <;> first | (cases h; done) | skip
    rename_i x o' y _ he
    obtain ⟨h, h4⟩ := and3 h
    obtain ⟨h, h3⟩ := and3 h
    obtain ⟨h1, h2⟩ := and3 h
    obtain ⟨r, hr, hg⟩ := bin_tab (X := X) k.hK h1
    have e2 : o' = o := eq_of_beq h2
    subst e2
    exact sat_val k.hK he (PE.cD (dx_bin hr hg ((chk_ok a k h3).2.1 rfl) ((chk_ok b k h4).2.1 rfl)) fun env => by rw [evE] <;> rfl) rfl
  | .neg a, G, C, W, m, e, k, h => by
    unfold chk at h
    split at h <;> first | (cases h; done) | skip
    rename_i x _ he
    exact sat_val k.hK he (PE.cD (dx_neg ((chk_ok a k h).2.1 rfl)) fun env => by rw [evE] <;> rfl) rfl
  | .inv a, G, C, W, m, e, k, h => by
    unfold chk at h
    split at h <;> first | (cases h; done) | skip
    rename_i x _ he
    exact sat_val k.hK he (PE.cD (dx_inv ((chk_ok a k h).2.1 rfl)) fun env => by rw [evE] <;> rfl) rfl
  | .not a, G, C, W, m, e, k, h => by
    unfold chk at h
    split at h <;> first | (cases h; done) | skip
    rename_i x p he
    by_cases hm : m = 2
    · subst hm
      have h : chk a G 2 x = true := h
      refine sat_mk (fun z => by cases z) (fun z => by cases z) fun _ => ?_
      rw [he]
      exact ⟨PT.cB (dt_not ((chk_ok a k h).2.2 rfl).1) fun env => by rw [evE] <;> rfl, fun _ _ _ z => by cases z⟩
    · have h : chk a G 1 x = true := by rw [if_neg (by simpa using hm)] at h; exact h
      have := dx_not (pos := p) (W := W) k.hK ((chk_ok a k h).2.1 rfl)
      refine sat_mk (fun _ => ?_) (fun _ => ?_) fun z => absurd z hm
      · rw [he]; exact PE.cD this fun env => by rw [evE] <;> rfl
      · rw [he]; exact PE.cT this.anyT fun env => by rw [evE] <;> rfl
  | .cmp o a b, G, C, W, m, e, k, h => by
    unfold chk at h
    split at h <;> first | (cases h; done) | skip
    rename_i x o' y _ he
    obtain ⟨h, h4⟩ := and3 h
    obtain ⟨h, h3⟩ := and3 h
    obtain ⟨h1, h2⟩ := and3 h
    obtain ⟨r, hr, hg⟩ := cmp_tab (X := X) k.hK k.un o
    have e2 : o' = o := eq_of_beq h1
    subst e2
    have ha := (chk_ok a k h3).2.1 rfl
    have hb := (chk_ok b k h4).2.1 rfl
    exact sat_cmp he (PE.cD (dx_cmp hr hg ha hb (marks_no (notStar h2))) fun env => by rw [evE] <;> rfl) (PT.cB (dt_cmp hr hg ha hb (marks_no (notStar h2)) (bl_cmp o')) fun env => by rw [evE] <;> rfl) fun _ _ _ z => by cases z
  | .cmp2 o1 o2 a b c, G, C, W, m, e, k, h => by
    unfold chk at h
    split at h <;> first | (cases h; done) | skip
    rename_i x o1' o2' y z _ he
    obtain ⟨h, h6⟩ := and3 h
    obtain ⟨h, h5⟩ := and3 h
    obtain ⟨h, h4⟩ := and3 h
    obtain ⟨h, h3⟩ := and3 h
    obtain ⟨h1, h2⟩ := and3 h
    obtain ⟨r, hr, hg⟩ := cmp_tab (X := X) k.hK k.un o1
    obtain ⟨r2, hr2, hg2⟩ := cmp_tab (X := X) k.hK k.un o2
    have e2 : o1' = o1 := eq_of_beq h1
    have e3 : o2' = o2 := eq_of_beq h2
    subst e2
    subst e3
    have ha := (chk_ok a k h4).2.1 rfl
    have hb := (chk_ok b k h5).2.1 rfl
    have hc := (chk_ok c k h6).2.1 rfl
    have hm : lastMarks [o1', o2'] [y, z] = false := marks_no (notStar h3)
    exact sat_cmp he (PE.cD (dx_cmp2 hr hr2 hg hg2 ha hb hc hm (bl_cmp o1')) fun env => by rw [evE] <;> rfl) (PT.cB (dt_cmp2 hr hr2 hg hg2 ha hb hc hm (bl_cmp o1') (bl_cmp o2')) fun env => by rw [evE] <;> rfl) fun _ _ _ z => by cases z
  | .and a b, G, C, W, m, e, k, h => by
    unfold chk at h
    split at h <;> first | (cases h; done) | skip
    rename_i x y r p he
    by_cases hm : m = 2
    · subst hm
      have h : (chk a G 2 x && chk b G 2 (.BoolOp .And (y :: r) p)) = true := h
      obtain ⟨h1, h2⟩ := and3 h
      refine sat_mk (fun z => by cases z) (fun z => by cases z) fun _ => ?_
      rw [he]
      have w : PW C (.BoolOp .And (x :: y :: r) p) (tB X W fun env => (evE cl (.and a b) env).bind truM) := PW.cB (dw_and ((chk_ok a k h1).2.2 rfl).1 (((chk_ok b k h2).2.2 rfl).2 _ _ _ rfl)) fun env => by rw [evE] <;> rfl
      exact ⟨w.pt, fun _ _ _ _ => w⟩
    · rw [if_neg (by simpa using hm)] at h
      obtain ⟨h1, h2⟩ := and3 h
      have := dx_and (W := W) k.hK ((chk_ok a k h1).1 rfl) ((chk_ok b k h2).1 rfl)
      refine sat_mk (fun _ => ?_) (fun _ => ?_) fun z => absurd z hm
      · rw [he]; exact PE.cD this fun env => by rw [evE] <;> rfl
      · rw [he]; exact PE.cT this.anyT fun env => by rw [evE] <;> rfl
  | .or a b, G, C, W, m, e, k, h => by
    unfold chk at h
    split at h <;> first | (cases h; done) | skip
    rename_i x y r p he
    by_cases hm : m = 2
    · subst hm
      have h : (chk a G 2 x && chk b G 2 (.BoolOp .Or (y :: r) p)) = true := h
      obtain ⟨h1, h2⟩ := and3 h
      refine sat_mk (fun z => by cases z) (fun z => by cases z) fun _ => ?_
      rw [he]
      have w : PW C (.BoolOp .Or (x :: y :: r) p) (tB X W fun env => (evE cl (.or a b) env).bind truM) := PW.cB (dw_or ((chk_ok a k h1).2.2 rfl).1 (((chk_ok b k h2).2.2 rfl).2 _ _ _ rfl)) fun env => by rw [evE] <;> rfl
      exact ⟨w.pt, fun _ _ _ _ => w⟩
    · rw [if_neg (by simpa using hm)] at h
      obtain ⟨h1, h2⟩ := and3 h
      have := dx_or (W := W) k.hK ((chk_ok a k h1).1 rfl) ((chk_ok b k h2).1 rfl)
      refine sat_mk (fun _ => ?_) (fun _ => ?_) fun z => absurd z hm
      · rw [he]; exact PE.cD this fun env => by rw [evE] <;> rfl
      · rw [he]; exact PE.cT this.anyT fun env => by rw [evE] <;> rfl
  | .ite t a b, G, C, W, m, e, k, h => by
    unfold chk at h
    split at h <;> first | (cases h; done) | skip
    rename_i x y z p he
    obtain ⟨h, h4⟩ := and3 h
    obtain ⟨h, h3⟩ := and3 h
    obtain ⟨h1, h2⟩ := and3 h
    have ht := ((chk_ok t k h2).2.2 rfl).1
    have sa := chk_ok a k h3
    have sb := chk_ok b k h4
    refine sat_mk (fun z => ?_) (fun z => ?_) fun z => by subst z; cases h1
    · rw [he]; exact PE.cD (dx_ite (tr := false) ht (sa.1 z) (sb.1 z)) fun env => by rw [evE] <;> rfl
    · rw [he]; exact PE.cT (dx_ite (tr := true) ht (sa.2.1 z) (sb.2.1 z)) fun env => by rw [evE] <;> rfl
  | .tup es, G, C, W, m, e, k, h => by
    unfold chk at h
    split at h <;> first | (cases h; done) | skip
    rename_i xs _ _ he
    exact sat_val k.hK he (PE.cD (dx_tup ((chks_ok es k h).1 rfl)) fun env => by rw [evE] <;> rfl) rfl
  | .lst es, G, C, W, m, e, k, h => by
    unfold chk at h
    split at h <;> first | (cases h; done) | skip
    rename_i xs _ he
    exact sat_val k.hK he (PE.cD (dx_lst ((chks_ok es k h).1 rfl)) fun env => by rw [evE] <;> rfl) rfl
  | .sub a i, G, C, W, m, e, k, h => by
    unfold chk at h
    split at h <;> first | (cases h; done) | skip
    rename_i x y _ he
    obtain ⟨h, h3⟩ := and3 h
    obtain ⟨h1, h2⟩ := and3 h
    exact sat_val k.hK he (PE.cD (dx_sub k.hK ((chk_ok a k h2).2.1 rfl) ((chk_ok i k h3).2.1 rfl) (plain_ix (notStar h1))) fun env => by rw [evE] <;> rfl) rfl
  | .slice a lo hi, G, C, W, m, e, k, h => by
    unfold chk at h
    split at h <;> first | (cases h; done) | skip
    rename_i x l hh _ _ he
    obtain ⟨h, h3⟩ := and3 h
    obtain ⟨h1, h2⟩ := and3 h
    exact sat_val k.hK he (PE.cD (dx_slice k.hK ((chk_ok a k h1).2.1 rfl) (chkO_ok lo k h2) (chkO_ok hi k h3)) fun env => by rw [evE] <;> rfl) rfl
  | .rev a s, G, C, W, m, e, k, h => by
    unfold chk at h
    split at h <;> first | (cases h; done) | skip
    rename_i x st _ _ he
    obtain ⟨h1, h2⟩ := and3 h
    exact sat_val k.hK he (PE.cD (dx_rev k.hK ((chk_ok a k h1).2.1 rfl) (chkO_ok s k h2)) fun env => by rw [evE] <;> rfl) rfl
  | .call f es, G, C, W, m, e, k, h => by
    unfold chk at h
    split at h <;> first | (cases h; done) | skip
    rename_i x p y ys pos he
    obtain ⟨h, h3⟩ := and3 h
    obtain ⟨h, h2⟩ := and3 h
    obtain ⟨h1, hst⟩ := and3 h
    obtain ⟨g1, hf, hdb⟩ := Gx.fn_ok k h1
    obtain ⟨addr, fd, ps, n, m1, kp, hb, hr, F, kw⟩ := k.fns x f hf
    obtain ⟨Wx, tk, hW⟩ := k.wx
    exact sat_val k.hK he (PE.cD (dx_call F hr g1 m1 kp hb tk hW ((chks_ok es k h3).1 rfl) hdb (starEach_one (notStar hst)) (plain_star (notStar h2))) fun env => by rw [evE] <;> rfl) rfl
  | .callB f es, G, C, W, m, e, k, h => by
    unfold chk at h
    split at h <;> first | (cases h; done) | skip
    rename_i x p y ys pos he
    obtain ⟨h, h3⟩ := and3 h
    obtain ⟨h, h2⟩ := and3 h
    obtain ⟨h1, hst⟩ := and3 h
    obtain ⟨g1, hf, hdb⟩ := Gx.fn_ok k h1
    obtain ⟨addr, fd, ps, n, m1, kp, hb, hr, F, kw⟩ := k.fns x f hf
    obtain ⟨Wx, tk, hW⟩ := k.wx
    exact sat_val k.hK he (PE.cD (dx_callB F hr g1 m1 kp hb tk hW ((chks_ok es k h3).2 rfl) hdb (starEach_one (notStar hst)) (plain_star (notStar h2))) fun env => by rw [evE] <;> rfl) rfl
  | .call0 f, G, C, W, m, e, k, h => by
    unfold chk at h
    split at h <;> first | (cases h; done) | skip
    rename_i x p pos he
    obtain ⟨g1, hf, hdb⟩ := Gx.fn_ok k h
    obtain ⟨addr, fd, ps, n, m1, kp, hb, hr, F, kw⟩ := k.fns x f hf
    obtain ⟨Wx, tk, hW⟩ := k.wx
    exact sat_val k.hK he (PE.cD (dx_call0 F hr g1 m1 kp hb tk hW hdb) fun env => by rw [evE] <;> rfl) rfl
  | .callR f a b, G, C, W, m, e, k, h => by
    unfold chk at h
    split at h <;> first | (cases h; done) | skip
    rename_i x p k1 u q1 k2 v q2 pos he
    obtain ⟨h, h5⟩ := and3 h
    obtain ⟨h, h4⟩ := and3 h
    obtain ⟨h, h3⟩ := and3 h
    obtain ⟨h1, h2⟩ := and3 h
    obtain ⟨g1, hf, hdb⟩ := Gx.fn_ok k h1
    obtain ⟨addr, fd, ps, n, m1, kp, hb, hr, F, kw⟩ := k.fns x f hf
    obtain ⟨Wx, tk, hW⟩ := k.wx
    have hk := kw k1 k2 (eq_of_beq h2) (by simpa using h3)
    exact sat_val k.hK he (PE.cD (dx_callR F hr g1 m1 kp hk tk hW ((chk_ok a k h4).1 rfl) ((chk_ok b k h5).1 rfl) hdb) fun env => by rw [evE] <;> rfl) rfl
  | .isi a ts, G, C, W, m, e, k, h => by
    unfold chk at h
    split at h <;> first | (cases h; done) | skip
    rename_i x p y z p2 pos T he
    obtain ⟨h, h7⟩ := and3 h
    obtain ⟨h, h6⟩ := and3 h
    obtain ⟨h, h5⟩ := and3 h
    obtain ⟨h, h4⟩ := and3 h
    obtain ⟨h, h3⟩ := and3 h
    obtain ⟨h1, h2⟩ := and3 h
    have ex := eq_of_beq h1
    have ez := eq_of_beq h4
    obtain ⟨g1, m1⟩ := Gx.bi_ok k h2
    obtain ⟨g2, m2⟩ := Gx.bi_ok k h3
    have nT : isCls T = false := notStar h5
    obtain ⟨b1, b2, b3⟩ := ty_boot nT
    rw [← ez] at b1 b2 b3
    have hT : ∀ c, T ≠ .cls c := fun c z => by rw [z] at nT; cases nT
    exact sat_val k.hK he (PE.cD (isi_one k.hK g1 m1 ex g2 m2 b1 b2 b3 hT ((chk_ok a k h7).2.1 rfl) (starEach_one (notStar h6))) fun env => by rw [evE] <;> rfl) rfl
  | .bi b es, G, C, W, m, e, k, h => by
    unfold chk at h
    split at h <;> first | (cases h; done) | skip
    rename_i x p y ys pos he
    obtain ⟨h, h4⟩ := and3 h
    obtain ⟨h, h3⟩ := and3 h
    obtain ⟨h, hst⟩ := and3 h
    obtain ⟨h1, h2⟩ := and3 h
    have ex := eq_of_beq h1
    subst ex
    obtain ⟨g1, m1⟩ := Gx.bi_ok k h2
    obtain ⟨n1, n2⟩ := bf_name b
    have ha := (chks_ok es k h4).2 rfl
    have he1 : starEach (y :: ys) C.env = (false, eval y C.env) :: starEach ys C.env := starEach_one (notStar hst)
    refine sat_val k.hK he ?_ rfl
    rcases bf_tab (X := X) k.hK k.calm b with ⟨id, r, c1, c2, c3⟩ | ⟨T, r, c1, c2, c3⟩
    · exact PE.cD (dx_fn c1 c2 g1 m1 c3 ha n1 n2 he1 (plain_star (notStar h3))) fun env => by rw [evE] <;> rfl
    · exact PE.cD (dx_ty c1 c2 g1 m1 c3 ha n1 n2 he1 (plain_star (notStar h3))) fun env => by rw [evE] <;> rfl
  | .bm b a es, G, C, W, m, e, k, h => by
    unfold chk at h
    split at h <;> first | (cases h; done) | skip
    · rename_i y nm apos pos he
      obtain ⟨h, h4⟩ := and3 h
      obtain ⟨h, h3⟩ := and3 h
      obtain ⟨h1, h2⟩ := and3 h
      have en := eq_of_beq h1
      subst en
      refine sat_val k.hK he (PE.cD (dx_bits ((chk_ok a k h4).2.1 rfl) (base_no (notStar h2)) h3) fun env => ?_) rfl
      rw [evE]
      funext s
      unfold M.bind
      cases evE cl a env s with
      | ok p => dsimp only; rw [evEs]; rfl
      | exc _ _ _ => rfl
      | stuck => rfl
    · rename_i y nm apos z pos f he
      obtain ⟨h, h6⟩ := and3 h
      obtain ⟨h, h5⟩ := and3 h
      obtain ⟨h, h4⟩ := and3 h
      obtain ⟨h, h3⟩ := and3 h
      obtain ⟨h1, h2⟩ := and3 h
      have en := eq_of_beq h1
      subst en
      have hz : PA C [z] (tTs X W (evEs cl (.cons f .nil))) := PA.cT (dxT_cons ((chk_ok f k h6).2.1 rfl) dxT_nil (starEach_one (notStar h3))) fun env => by rw [evEs, evEs] <;> rfl
      exact sat_val k.hK he (dx_index k.hK k.un ((chk_ok a k h5).2.1 rfl) hz (notStar h3) (notStar h2) h4) rfl
  | .lc t kk it cs b own, G, C, W, m, e, k, h => by
    unfold chk at h
    split at h <;> first | (cases h; done) | skip
    rename_i elt tg iter ifs scope pos he
    obtain ⟨h, h7⟩ := and3 h
    obtain ⟨h, h6⟩ := and3 h
    obtain ⟨h, h5⟩ := and3 h
    obtain ⟨h, h4⟩ := and3 h
    obtain ⟨h, h3⟩ := and3 h
    obtain ⟨h1, h2⟩ := and3 h
    have ok : BlkOk C.N C.env.scope scope (G.own own) := by rw [k.hN, k.sc]; exact blkOk_by h1
    have := dx_lc (pos := pos) k.hK k.calm k.nd (chkI_ok it (tr := true) (W := W) k h4) ok (fun s H A c fp => chkT_ok t (W := W0) (k.blk s H scope A c fp) h5) (by rw [own_map]; exact all_mem h3)
      (fun s H A c fp => chkCs_ok cs (k.blk s H scope A c fp) h6) (fun s H A c fp => (chk_ok b (k.blk s H scope A c fp) h7).1 rfl) (folded_no (notStar h2))
    rw [own_map] at this
    exact sat_val k.hK he this rfl
  | .lc2 t kk it cs t1 k1 it1 cs1 b own own1, G, C, W, m, e, k, h => by
    unfold chk at h
    split at h <;> first | (cases h; done) | skip
    rename_i elt tg iter ifs tg1 iter1 ifs1 scope pos he
    obtain ⟨h, h13⟩ := and3 h
    obtain ⟨h, h12⟩ := and3 h
    obtain ⟨h, h11⟩ := and3 h
    obtain ⟨h, h10⟩ := and3 h
    obtain ⟨h, h9⟩ := and3 h
    obtain ⟨h, h8⟩ := and3 h
    obtain ⟨h, h7⟩ := and3 h
    obtain ⟨h, h6⟩ := and3 h
    obtain ⟨h, h5⟩ := and3 h
    obtain ⟨h, h4⟩ := and3 h
    obtain ⟨h, h3⟩ := and3 h
    obtain ⟨h1, h2⟩ := and3 h
    have ok : BlkOk C.N C.env.scope scope (G.own own) := by rw [k.hN, k.sc]; exact blkOk_by h1
    have := dx_lc2 (pos := pos) k.hK k.calm k.nd (chkI_ok it (tr := true) (W := W) k h7) ok (by rw [own_map]; exact all_mem h5) (fun s H A c fp => chkT_ok t (W := W0) (k.blk s H scope A c fp) h8) (by rw [own_map]; exact all_mem h4)
      (fun s H A c fp => chkCs_ok cs (k.blk s H scope A c fp) h9) (fun s H A c fp => chkI_ok it1 (tr := false) (k.blk s H scope A c fp) h10) (fun s H A c fp => chkT_ok t1 (W := W0) (k.blk s H scope A c fp) h11) (all_mem h6)
      (fun s H A c fp => chkCs_ok cs1 (k.blk s H scope A c fp) h12) (fun s H A c fp => (chk_ok b (k.blk s H scope A c fp) h13).1 rfl) (folded_no (notStar h2)) (fun env => folded_no (notStar h3))
    rw [own_map] at this
    exact sat_val k.hK he this rfl
  | .nev, G, C, W, m, e, k, h => by
    refine ⟨fun _ => ⟨fun pins s σ H Q I ⟨R, env, sto, S, E, o⟩ => ?_⟩, fun _ => ⟨fun pins s σ H Q I ⟨R, env, sto, S, E, o⟩ => ?_⟩, fun _ => ⟨⟨fun pins s σ H Q I ⟨R, env, sto, S, E, o⟩ => ?_⟩, fun _ _ _ _ => ⟨fun _ pins s σ H Q I ⟨R, env, sto, S, E, o⟩ => ?_⟩⟩⟩
    · unfold evE at o; exact o.elim
    · unfold evE at o; exact o.elim
    · unfold evE at o; exact o.elim
    · unfold evE at o; exact o.elim
  | .kget t a b, G, C, W, m, e, k, h => by
    unfold chk at h
    split at h <;> first | (cases h; done) | skip
    rename_i x np nm apos u v pos he
    obtain ⟨h, h10⟩ := and3 h
    obtain ⟨h, h9⟩ := and3 h
    obtain ⟨h, h8⟩ := and3 h
    obtain ⟨h, h7⟩ := and3 h
    obtain ⟨h, h6⟩ := and3 h
    obtain ⟨h, h5⟩ := and3 h
    obtain ⟨h, h4⟩ := and3 h
    obtain ⟨h, h3⟩ := and3 h
    obtain ⟨h1, h2⟩ := and3 h
    have e1 := eq_of_beq h1
    have e2 := eq_of_beq h2
    subst e1
    subst e2
    obtain ⟨p, hm, T⟩ := k.dcs x (by simpa using h5)
    have hdb : (x == ("__debug__" : Str)) = false := by
      unfold nmOk at h4
      exact notStar (and3 h4).1
    have hu := notStar h6
    have hv := notStar h7
    have M : M2 C (.Name x np) "get" apos u v pos := ⟨base_no rfl, by rw [starEach_one hu, starEach_one hv]; rfl, h8, by rw [starEach_one hu, starEach_one hv]; rfl⟩
    exact sat_val k.hK he (PE.cD (dx_kget (Gx.glo_ok k h3) hm hdb T ((chk_ok a k h9).2.1 rfl) ((chk_ok b k h10).1 rfl) M) fun env => by rw [evE] <;> rfl) rfl
  | .dcT _ _ _ _ _ _ _, G, C, W, m, e, k, h => by unfold chk at h; cases h
  | .fld _ _, G, C, W, m, e, k, h => by unfold chk at h; cases h
  | .make _ _, G, C, W, m, e, k, h => by unfold chk at h; cases h
theorem chks_ok : ∀ (t : Es) {G : Gx} {C : Cx} {W : WD} {m : Nat} {es : List Expr}, Cok X cl G W C → chks t G m es = true → SatA X W C cl m es t
  | .nil, G, C, W, m, es, k, h => by
    unfold chks at h
    cases es with
    | nil => exact ⟨fun _ => PA.cD dx_nil fun env => by rw [evEs] <;> rfl, fun _ => PA.cT dxT_nil fun env => by rw [evEs] <;> rfl⟩
    | cons _ _ => cases h
  | .cons t r, G, C, W, m, es, k, h => by
    unfold chks at h
    split at h <;> first | (cases h; done) | skip
    rename_i e rest
    obtain ⟨h, h3⟩ := and3 h
    obtain ⟨h1, h2⟩ := and3 h
    have s1 := chk_ok t k h2
    have s2 := chks_ok r k h3
    exact ⟨fun z => PA.cD (dx_cons (s1.1 z) (s2.1 z) (starEach_one (notStar h1))) fun env => by rw [evEs] <;> rfl, fun z => PA.cT (dxT_cons (s1.2.1 z) (s2.2 z) (starEach_one (notStar h1))) fun env => by rw [evEs] <;> rfl⟩
  | .star t r, G, C, W, m, es, k, h => by
    unfold chks at h
    split at h <;> first | (cases h; done) | skip
    obtain ⟨h2, h3⟩ := and3 h
    have s1 := (chk_ok t k h2).2.1 rfl
    have s2 := chks_ok r k h3
    exact ⟨fun z => PA.cD (dx_star k.hK s1 (s2.1 z)) fun env => by rw [evEs] <;> rfl, fun z => PA.cT (dxT_star k.hK s1 (s2.2 z)) fun env => by rw [evEs] <;> rfl⟩
theorem chkO_ok : ∀ (t : Op) {G : Gx} {C : Cx} {W : WD} {e : Option Expr}, Cok X cl G W C → chkO t G e = true → PO C e (tO X W (evO cl t))
  | .no, G, C, W, e, k, h => by
    unfold chkO at h
    cases e with
    | none =>
      have : evO cl .no = fun _ => M.pure none := funext fun env => by rw [evO] <;> rfl
      rw [this]; exact do_no
    | some _ => cases h
  | .ex t, G, C, W, e, k, h => by
    unfold chkO at h
    split at h <;> first | (cases h; done) | skip
    have : evO cl (.ex t) = fun env => (evE cl t env).bind fun x => match x with
      | .int i => M.pure (some i)
      | _ => stuck := funext fun env => by rw [evO] <;> rfl
    rw [this]
    exact do_ex ((chk_ok t k h).2.1 rfl)
theorem chkCs_ok : ∀ (t : Es) {G : Gx} {C : Cx} {W : WD} {es : List Expr}, Cok X cl G W C → chkCs t G es = true → PTs C es (tB X W (evCs cl t))
  | .nil, G, C, W, es, k, h => by
    unfold chkCs at h
    cases es with
    | nil =>
      have : evCs cl .nil = fun _ => M.pure true := funext fun env => by rw [evCs] <;> rfl
      rw [this]; exact dcs_nil
    | cons _ _ => cases h
  | .cons t r, G, C, W, es, k, h => by
    unfold chkCs at h
    split at h <;> first | (cases h; done) | skip
    have : evCs cl (.cons t .nil) = fun env => (evE cl t env).bind truM := funext fun env => by
      rw [evCs]
      funext s
      unfold M.bind truM
      cases evE cl t env s with
      | ok p =>
        dsimp only
        cases truth p.1 with
        | none => rfl
        | some b =>
          cases b with
          | false => rfl
          | true => show evCs cl .nil env p.2 = _; rw [evCs]; rfl
      | exc _ _ _ => rfl
      | stuck => rfl
    rw [this]
    exact pts_one ((chk_ok t k h).2.2 rfl).1
  | .star t r, G, C, W, es, k, h => by unfold chkCs at h; cases h
theorem chkI_ok : ∀ (t : Es) {kk : Itb} {G : Gx} {C : Cx} {W : WD} {tr : Bool} {tg e : Expr}, Cok X cl G W C → chkI t kk G tr tg e = true → PI C tg e (tI X W tr fun env => (evEs cl t env).bind (itD kk))
  | .nil, kk, G, C, W, tr, tg, e, k, h => by unfold chkI at h; cases h
  | .star t r, kk, G, C, W, tr, tg, e, k, h => by unfold chkI at h; cases h
  | .cons t r, kk, G, C, W, tr, tg, e, k, h => by
    unfold chkI at h
    have e1 : ∀ (t : E) (env : Env), evEs cl (.cons t .nil) env = (evE cl t env).bind fun x => M.pure [x] := fun t env => by
      rw [evEs, evEs]; rfl
    have one : ∀ {a : Expr} (t : E), isStar a = false → Sat X W C cl (if tr then 1 else 0) a t → PA C [a] (tXs X W tr (evEs cl (.cons t .nil))) := fun {a} t hs s => by
      cases tr with
      | true => exact PA.cT (dxT_cons (s.2.1 rfl) dxT_nil (starEach_one hs)) fun env => by rw [evEs, evEs] <;> rfl
      | false => exact PA.cD (dx_cons (s.1 rfl) dx_nil (starEach_one hs)) fun env => by rw [evEs, evEs] <;> rfl
    have two : ∀ {a b : Expr} (t u : E), isStar a = false → isStar b = false → Sat X W C cl (if tr then 1 else 0) a t → Sat X W C cl (if tr then 1 else 0) b u → PA C [a, b] (tXs X W tr (evEs cl (.cons t (.cons u .nil)))) := fun {a b} t u hs hs2 s s2 => by
      have o := one u hs2 s2
      cases tr with
      | true => exact PA.cT (dxT_cons (s.2.1 rfl) o (starEach_one hs)) fun env => by rw [evEs] <;> rfl
      | false => exact PA.cD (dx_cons (s.1 rfl) o (starEach_one hs)) fun env => by rw [evEs] <;> rfl
    have three : ∀ {a b c : Expr} (t u v : E), isStar a = false → isStar b = false → isStar c = false → Sat X W C cl (if tr then 1 else 0) a t → Sat X W C cl (if tr then 1 else 0) b u → Sat X W C cl (if tr then 1 else 0) c v → PA C [a, b, c] (tXs X W tr (evEs cl (.cons t (.cons u (.cons v .nil))))) := fun {a b c} t u v hs hs2 hs3 s s2 s3 => by
      have o := two u v hs2 hs3 s2 s3
      cases tr with
      | true => exact PA.cT (dxT_cons (s.2.1 rfl) o (starEach_one hs)) fun env => by rw [evEs] <;> rfl
      | false => exact PA.cD (dx_cons (s.1 rfl) o (starEach_one hs)) fun env => by rw [evEs] <;> rfl
    split at h <;> first | (cases h; done) | skip
    · have s := chk_ok t k h
      refine PI.cI (di_seq k.hK (Sat.x s rfl)) fun env => ?_
      rw [e1]; rfl
    · split at h <;> first | (cases h; done) | skip
      obtain ⟨h, h4⟩ := and3 h
      obtain ⟨h, h3⟩ := and3 h
      obtain ⟨h1, h2⟩ := and3 h
      have en := eq_of_beq h1
      subst en
      obtain ⟨g1, m1⟩ := Gx.bi_ok k h2
      refine PI.cI (di_rev k.hK g1 m1 (Sat.x (chk_ok t k h4) rfl) (starEach_one (notStar h3))) fun env => ?_
      rw [e1]; rfl
    · split at h <;> first | (cases h; done) | skip
      obtain ⟨h, h4⟩ := and3 h
      obtain ⟨h, h3⟩ := and3 h
      obtain ⟨h1, h2⟩ := and3 h
      have en := eq_of_beq h1
      subst en
      obtain ⟨g1, m1⟩ := Gx.bi_ok k h2
      exact di_range1 g1 m1 (one t (notStar h3) (chk_ok t k h4)) (starEach_one (notStar h3))
    · split at h <;> first | (cases h; done) | skip
      rename_i u _ _ _ _ _ _ _ _
      obtain ⟨h, h6⟩ := and3 h
      obtain ⟨h, h5⟩ := and3 h
      obtain ⟨h, h4⟩ := and3 h
      obtain ⟨h, h3⟩ := and3 h
      obtain ⟨h1, h2⟩ := and3 h
      have en := eq_of_beq h1
      subst en
      obtain ⟨g1, m1⟩ := Gx.bi_ok k h2
      exact di_range2 g1 m1 (two t _ (notStar h3) (notStar h4) (chk_ok t k h5) (chk_ok _ k h6)) (by rw [starEach_one (notStar h3), starEach_one (notStar h4)]; rfl) (starEach_one (notStar h4))
    · split at h <;> first | (cases h; done) | skip
      obtain ⟨h, h8⟩ := and3 h
      obtain ⟨h, h7⟩ := and3 h
      obtain ⟨h, h6⟩ := and3 h
      obtain ⟨h, h5⟩ := and3 h
      obtain ⟨h, h4⟩ := and3 h
      obtain ⟨h, h3⟩ := and3 h
      obtain ⟨h1, h2⟩ := and3 h
      have en := eq_of_beq h1
      subst en
      obtain ⟨g1, m1⟩ := Gx.bi_ok k h2
      exact di_range3 g1 m1 (three t _ _ (notStar h3) (notStar h4) (notStar h5) (chk_ok t k h6) (chk_ok _ k h7) (chk_ok _ k h8)) (starEach_one (notStar h3)) (by rw [starEach_one (notStar h4), starEach_one (notStar h5)]; rfl)
    · split at h <;> first | (cases h; done) | skip
      obtain ⟨h, h4⟩ := and3 h
      obtain ⟨h, h3⟩ := and3 h
      obtain ⟨h1, h2⟩ := and3 h
      have en := eq_of_beq h1
      subst en
      obtain ⟨g1, m1⟩ := Gx.bi_ok k h2
      exact di_enum k.hK g1 m1 (one t (notStar h3) (chk_ok t k h4)) (starEach_one (notStar h3))
    · split at h <;> first | (cases h; done) | skip
      obtain ⟨h, h6⟩ := and3 h
      obtain ⟨h, h5⟩ := and3 h
      obtain ⟨h, h4⟩ := and3 h
      obtain ⟨h, h3⟩ := and3 h
      obtain ⟨h1, h2⟩ := and3 h
      have en := eq_of_beq h1
      subst en
      obtain ⟨g1, m1⟩ := Gx.bi_ok k h2
      exact di_zip k.hK g1 m1 (two t _ (notStar h3) (notStar h4) (chk_ok t k h5) (chk_ok _ k h6)) (starEach_one (notStar h3)) (by rw [starEach_one (notStar h4)]; rfl)
theorem chkT_ok : ∀ (t : T) {G : Gx} {C : Cx} {W : WD} {e : Expr}, Cok X cl G W C → chkT t G e = true → PG C e (tG X (tvs t) (asgT cl t))
  | .nm i, G, C, W, e, k, h => by
    unfold chkT at h
    split at h <;> first | (cases h; done) | skip
    obtain ⟨h1, h2, h3⟩ := Gx.set_ok k h
    exact dg_nm cl k.nd h1 h2 h3
  | .tp ts, G, C, W, e, k, h => by
    unfold chkT at h
    split at h <;> first | (cases h; done) | skip
    obtain ⟨h1, h2, h3⟩ := chkTs_ok ts (W := W) k h
    exact dg_tup k.hK k.calm h1 h2 h3
  | .sub a b, G, C, W, e, k, h => by
    unfold chkT at h
    split at h <;> first | (cases h; done) | skip
    rename_i x y p
    obtain ⟨h, h3⟩ := and3 h
    obtain ⟨h1, h2⟩ := and3 h
    refine dg_sub k.hK ((chk_ok a (W := W) k h2).2.1 rfl) ((chk_ok b (W := W) k h3).2.1 rfl) (assign_sub (notStar h1))
theorem chkTs_ok : ∀ (t : Ts) {G : Gx} {C : Cx} {W : WD} {es : List Expr}, Cok X cl G W C → chkTs t G es = true → PGs C es (tGs X (tvss t) (asgTs cl t)) ∧ (assignEach es C.env).length = tsLen t ∧ (assignEach es C.env).findIdx? (·.1) = none
  | .nil, G, C, W, es, k, h => by
    unfold chkTs at h
    cases es with
    | nil => exact ⟨dg_nil cl, rfl, rfl⟩
    | cons _ _ => cases h
  | .cons t r, G, C, W, es, k, h => by
    unfold chkTs at h
    split at h <;> first | (cases h; done) | skip
    rename_i e rest
    obtain ⟨h, h3⟩ := and3 h
    obtain ⟨h1, h2⟩ := and3 h
    have hs := notStar h1
    obtain ⟨p1, p2, p3⟩ := chkTs_ok r (W := W) k h3
    refine ⟨dg_cons (chkT_ok t (W := W) k h2) p1 (assign_one hs), ?_, ?_⟩
    · rw [assign_all hs]; show _ + 1 = _ + 1; rw [p2]
    · rw [assign_all hs, List.findIdx?_cons, p3]; rfl
end
end
end Bc

set_option linter.all false
set_option autoImplicit false
set_option maxRecDepth 100000
set_option maxHeartbeats 2000000
namespace Bc
open PySem PySem.Spec L2

/-- a store that is none of the special ones -/
def genOk (G : Gx) (tg v : Expr) : Bool :=
  !isStar tg && (!isComp v || !isName tg || (match tg, v with
    | .Name x px, .ListComp _ _ scope vp => !lcAt G.sc scope x px vp
    | _, _ => false)) &&
  (!isSeq tg || !isSeq v || (match tg, v with
    | .Tuple ts _ _, .Tuple vs _ _ => (!(ts.length == 2 || ts.length == 3) || vs.length != ts.length) || (match vs, ts with
      | [a, b], [t1, t2] => (foldedForSure 8 a && foldedForSure 8 b) || (notLoc G.sc t1 || notLoc G.sc t2)
      | [a, b, c], [t1, t2, t3] => (foldedForSure 8 a && (foldedForSure 8 b && foldedForSure 8 c)) || (notLoc G.sc t1 || (notLoc G.sc t2 || notLoc G.sc t3))
      | _, _ => false)
    | _, _ => false))
def par2 (G : Gx) (t : T) (e : E) (tg v : Expr) : Bool := match t, e, tg, v with
  | .tp (.cons (.nm i) (.cons (.nm j) .nil)), .tup es, .Tuple [.Name x px, .Name y py] _ _, .Tuple [a, b] _ _ =>
    blkFn G.sc && (G.N[i]? == some x) && (G.N[j]? == some y) && (i != j) && (x != y) && (G.sc.names.lookup x == some .local) && (G.sc.names.lookup y == some .local) && (py.line == px.line) && !isStar a && !isStar b &&
      !(foldedForSure 8 a && foldedForSure 8 b) && !(constantsAlone 8 a && constantsAlone 8 b) && chks es G 0 [a, b]
  | _, _, _, _ => false
def parO (G : Gx) (i j : Nat) (x y : Str) (px py : Pos) (a b : Expr) : Bool :=
  blkFn G.sc && (G.N[i]? == some x) && (G.N[j]? == some y) && (i != j) && (x != y) && (G.sc.names.lookup x == some .local) && (G.sc.names.lookup y == some .local) && (py.line == px.line) && !isStar a && !isStar b &&
    !(foldedForSure 8 a && foldedForSure 8 b) && !(constantsAlone 8 a && constantsAlone 8 b)
def parG (G : Gx) (i j : Nat) (x y : Str) (a b tg v : Expr) : Bool := genOk G tg v && G.set i x && G.set j y && (i != j) && !isStar a && !isStar b
def par3 (G : Gx) (t : T) (e : E) (tg v : Expr) : Bool := match t, e, tg, v with
  | .tp (.cons (.nm i) (.cons (.nm j) (.cons (.nm l) .nil))), .tup es, .Tuple [.Name x px, .Name y py, .Name z pz] _ _, .Tuple [a, b, c] _ _ =>
    blkFn G.sc && (G.N[i]? == some x) && (G.N[j]? == some y) && (G.N[l]? == some z) && (i != j) && (i != l) && (j != l) && (x != y) && (x != z) && (y != z) && (G.sc.names.lookup x == some .local) && (G.sc.names.lookup y == some .local) && (G.sc.names.lookup z == some .local) &&
      (py.line == px.line) && (pz.line == px.line) && !isStar a && !isStar b && !isStar c &&
      !(foldedForSure 8 a && (foldedForSure 8 b && foldedForSure 8 c)) && !(constantsAlone 8 a && (constantsAlone 8 b && constantsAlone 8 c)) && chks es G 0 [a, b, c]
  | _, _, _, _ => false
def lcA (G : Gx) (t : T) (k : Itb) (it cs : Es) (b : E) (own : List Nat) : Expr → Bool
  | .ListComp elt [⟨tg, iter, ifs, 0⟩] scope _ => blkC G.N G.sc scope (G.own own) && !isSet iter && (tvs t).all (own.contains ·) && chkI it k G true tg iter && chkT t (G.at scope) tg && chkCs cs (G.at scope) ifs && chk b (G.at scope) 0 elt
  | _ => false
def lcB (G : Gx) (t : T) (k : Itb) (it cs : Es) (t1 : T) (k1 : Itb) (it1 cs1 : Es) (b : E) (own own1 : List Nat) : Expr → Bool
  | .ListComp elt [⟨tg, iter, ifs, 0⟩, ⟨tg1, iter1, ifs1, 0⟩] scope _ => blkC G.N G.sc scope (G.own own) && !isSet iter && !isSet iter1 && (tvs t).all (own.contains ·) && own1.all (own.contains ·) && (tvs t1).all (own1.contains ·) && chkI it k G true tg iter && chkT t (G.at scope) tg && chkCs cs (G.at scope) ifs &&
        chkI it1 k1 (G.at scope) false tg1 iter1 && chkT t1 (G.at scope) tg1 && chkCs cs1 (G.at scope) ifs1 && chk b (G.at scope) 0 elt
  | _ => false
def lcPart (G : Gx) (e : E) (v : Expr) : Bool := match e with
  | .lc t k it cs b own => lcA G t k it cs b own v
  | .lc2 t k it cs t1 k1 it1 cs1 b own own1 => lcB G t k it cs t1 k1 it1 cs1 b own own1 v
  | _ => false
/-- a comprehension at a name of its own line -/
def lcSet (G : Gx) (t : T) (e : E) (tg v : Expr) : Bool := match t, tg, v with
  | .nm i, .Name x px, .ListComp _ _ scope vp => (G.N[i]? == some x) && (G.sc.names.lookup x == some .local) && lcAt G.sc scope x px vp && lcPart G e v
  | _, _, _ => false
def dcA (G : Gx) (t : T) (k : Itb) (it cs : Es) (a b : E) (own : List Nat) : Expr → Bool
  | .DictComp kx vx [⟨tg, iter, ifs, 0⟩] scope _ => blkC G.N G.sc scope (G.own own) && !isSet iter && (tvs t).all (own.contains ·) && chkI it k G true tg iter && chkT t (G.at scope) tg && chkCs cs (G.at scope) ifs && chk a (G.at scope) 0 kx && chk b (G.at scope) 0 vx
  | _ => false
def dcSet (G : Gx) (t : T) (e : E) (tg v : Expr) : Bool := match t, e, tg, v with
  | .nm i, .dcT t1 k it cs a b own, .Name x px, .DictComp kx vx gens scope vp => (G.N[i]? == some x) && (G.sc.names.lookup x == some .local) && lcAt G.sc scope x px vp && dcA G t1 k it cs a b own (.DictComp kx vx gens scope vp)
  | _, _, _, _ => false
/-- a list of one's own, made here -/
def newL (G : Gx) (es : Es) : Expr → Bool
  | .List xs _ => chks es G 0 xs
  | _ => false
def addL (G : Gx) (a b : E) : Expr → Bool
  | .BinOp x .Add y _ => chk a G 1 x && chk b G 1 y
  | _ => false
def listL (G : Gx) (es : Es) : Expr → Bool
  | .Call (.Name x _) (y :: ys) [] _ => (x == ("list" : Str)) && G.bi x && !isStar y && !ys.any isStar && chks es G 1 (y :: ys)
  | _ => false
def newOk (G : Gx) (e : E) (v : Expr) : Bool := match e with
  | .lst es => newL G es v
  | .lc t k it cs b own => lcA G t k it cs b own v
  | .bin .Add a b => addL G a b v
  | .bi .list es => listL G es v
  | _ => false
mutual
def chkS : S → Gx → Stmt → Bool
  | .nev, G, st => true
  | .asg t e, G, st => (match st with
    | .Assign [tg] v _ => (genOk G tg v && chkT t G tg && chk e G 0 v) || par2 G t e tg v || par3 G t e tg v || lcSet G t e tg v || dcSet G t e tg v
    | _ => false)
  | .asgTO i j e f, G, st => (match st with
    | .Assign [.Tuple [.Name x px, .Name y py] kt pt] (.Tuple [a, b] k2 p2) _ => (parO G i j x y px py a b || parG G i j x y a b (.Tuple [.Name x px, .Name y py] kt pt) (.Tuple [a, b] k2 p2)) && chk e G 0 a && newOk G f b
    | _ => false)
  | .asgOwn i e, G, st => (match st with
    | .Assign [.Name x px] v _ => G.set i x && newOk G e v && (genOk G (.Name x px) v || ((G.sc.names.lookup x == some .local) && (match v with
      | .ListComp _ [_] scope vp => lcAt G.sc scope x px vp
      | _ => false)))
    | _ => false)
  | .freeze _, _, _ => false
  | .app i e, G, st => (match st with
    | .Expr (.Call (.Attribute (.Name x _) nm apos) [a] [] cpos) _ => (nm == ("append" : Str)) && G.slot i x && !isStar a && (apos.endLine == cpos.line) && chk e G 0 a
    | _ => false)
  | .put i k e, G, st => (match st with
    | .Assign [.Subscript (.Name x _) y _] v _ => G.slot i x && !isSlice y && chk k G 1 y && chk e G 0 v
    | _ => false)
  | .expr e, G, st => (match st with
    | .Expr v _ => !isComp v && chk e G 0 v
    | _ => false)
  | .ret e, G, st => (match st with
    | .Return (some v) _ => chk e G 0 v
    | _ => false)
  | .retN, G, st => (match st with
    | .Return none _ => true
    | _ => false)
  | .retLoc es, G, st => (match st with
    | .Return (some (.List xs _)) _ => chks es G 0 xs
    | _ => false)
  | .ite c a b, G, st => (match st with
    | .If x y z _ => chk c G 2 x && chkSs a G y && chkSs b G z
    | _ => false)
  | .loop t k it b, G, st => (match st with
    | .For tg iter body [] _ => !isSet iter && chkI it k G false tg iter && chkT t G tg && chkSs b G body
    | _ => false)
  | .whil c b, G, st => (match st with
    | .While x body [] _ => chk c G 2 x && chkSs b G body
    | _ => false)
  | .brk, G, st => (match st with
    | .Break _ => true
    | _ => false)
  | .cont, G, st => (match st with
    | .Continue _ => true
    | _ => false)
  | .pass, G, st => (match st with
    | .Pass _ => true
    | .Expr (.Constant (.str _) _ _) _ => true
    | _ => false)
def chkSs : Ss → Gx → List Stmt → Bool
  | .nil, G, sts => sts.isEmpty
  | .cons s r, G, sts => (match s with
    | .freeze _ => chkSs r G sts
    | s => (match sts with
      | st :: rest => chkS s G st && chkSs r G rest
      | [] => false))
end
section
variable {X : Sx} {W : WD} {C : Cx} {cl : Cl} {G : Gx} {w : Nat} {R0 : Rl} {H0 : Hp} {pos : Pos}
structure CokS (X : Sx) (cl : Cl) (G : Gx) (W : WD) (C : Cx) : Prop extends Cok X cl G W C where
  pass : PassesOwn (model C.prog C.w) C.A C.env C.xe
  one : C.N = G.N
theorem _root_.L2.PS.cS {st : Stmt} {f g : Env → M (Fl × Env)} (h : PS C st (tS X W R0 H0 f)) (eq : ∀ env, g env = f env) : PS C st (tS X W R0 H0 g) := by
  have : g = f := funext eq
  rw [this]; exact h
theorem gen_ok (k : Cok X cl G W C) {tg v : Expr} {l : Nat} (h : genOk G tg v = true) : swapsWithSole [tg] v l C.env = pure false ∧ swappedStores [tg] v C.env = pure none ∧ (assignEach [tg] C.env).map (·.2) = [assign tg C.env] := by
  unfold genOk at h
  obtain ⟨h, h3⟩ := and3 h
  obtain ⟨h1, h2⟩ := and3 h
  refine ⟨?_, ?_, assign_one (notStar h1)⟩
  · simp only [Bool.or_eq_true] at h2
    rcases h2 with (h2 | h2) | h2
    · exact sole_no (notStar h2)
    · exact sole_no2 (notStar h2)
    · split at h2
      · exact (swaps_lc (l := l) (env := C.env)).trans (by rw [k.sc, notStar h2])
      · cases h2
  · simp only [Bool.or_eq_true] at h3
    rcases h3 with (h3 | h3) | h3
    · exact stores_no (.inl (notStar h3))
    · exact stores_no (.inr (notStar h3))
    · split at h3 <;> first | (cases h3; done) | skip
      rcases Bool.or_eq_true_iff.mp h3 with h3 | h3
      · exact stores_len h3
      · split at h3 <;> first | (cases h3; done) | skip
        · rcases Bool.or_eq_true_iff.mp h3 with h3 | h3
          · exact stores_folded h3
          · exact stores_cell (by rw [k.sc]; exact h3)
        · rcases Bool.or_eq_true_iff.mp h3 with h3 | h3
          · exact stores_folded3 h3
          · exact stores_cell3 (by rw [k.sc]; exact h3)
theorem par2_ok (k : CokS X cl G W C) {t : T} {e : E} {tg v : Expr} (h : par2 G t e tg v = true) : PS C (.Assign [tg] v pos) (tS X W R0 H0 (evS cl w (.asg t e))) := by
  unfold par2 at h
  split at h <;> first | (cases h; done) | skip
  simp only [Bool.and_eq_true, beq_iff_eq, bne_iff_ne, Bool.not_eq_true'] at h
  obtain ⟨⟨⟨⟨⟨⟨⟨⟨⟨⟨⟨⟨h1, h2⟩, h3⟩, h4⟩, h5⟩, h6⟩, h7⟩, h8⟩, h9⟩, h10⟩, h11⟩, h12⟩, h13⟩ := h
  refine dt_par k.calm k.nd (by rw [k.hN]; exact h2) (by rw [k.hN]; exact h3) h4 (by rw [k.sc]; exact h6) (by rw [k.sc]; exact h7) ((chks_ok _ k.toCok h13).1 rfl) (stores_par k.sc h1 h9 h10 h6 h7 h8 h5 ?_ ?_) (sole_no rfl)
  · exact h11
  · exact h12
theorem par3_ok (k : CokS X cl G W C) {t : T} {e : E} {tg v : Expr} (h : par3 G t e tg v = true) : PS C (.Assign [tg] v pos) (tS X W R0 H0 (evS cl w (.asg t e))) := by
  unfold par3 at h
  split at h <;> first | (cases h; done) | skip
  simp only [Bool.and_eq_true, beq_iff_eq, bne_iff_ne, Bool.not_eq_true'] at h
  obtain ⟨⟨⟨⟨⟨⟨⟨⟨⟨⟨⟨⟨⟨⟨⟨⟨⟨⟨⟨⟨h1, h2⟩, h3⟩, h4⟩, h5⟩, h6⟩, h7⟩, h8⟩, h9⟩, h10⟩, h11⟩, h12⟩, h13⟩, h14⟩, h15⟩, h16⟩, h17⟩, h18⟩, h19⟩, h20⟩, h21⟩ := h
  refine dt_par3 k.calm k.nd (by rw [k.hN]; exact h2) (by rw [k.hN]; exact h3) (by rw [k.hN]; exact h4) h5 h6 h7 (by rw [k.sc]; exact h11) (by rw [k.sc]; exact h12) (by rw [k.sc]; exact h13) ((chks_ok _ k.toCok h21).1 rfl)
    (stores_par3 k.sc h1 h16 h17 h18 h11 h12 h13 h14 h15 h8 h9 h10 ?_ ?_) (sole_no rfl)
  · exact h19
  · exact h20
theorem lcSet_ok (k : CokS X cl G W C) {t : T} {e : E} {tg v : Expr} (h : lcSet G t e tg v = true) : PS C (.Assign [tg] v pos) (tS X W R0 H0 (evS cl w (.asg t e))) := by
  unfold lcSet at h
  split at h <;> first | (cases h; done) | skip
  rename_i i x px elt gens scope vp
  obtain ⟨h, h4⟩ := and3 h
  obtain ⟨h, h3⟩ := and3 h
  obtain ⟨h1, h2⟩ := and3 h
  have hi : C.N[i]? = some x := by rw [k.hN]; exact eq_of_beq h1
  have hx : C.env.scope.names.lookup x = some .local := by rw [k.sc]; exact eq_of_beq h2
  have hw : ∀ l, swapsWith (.ListComp elt gens scope vp) (some (.Name x px)) l C.env = pure true := fun l => (swaps_lc (l := l) (env := C.env)).trans (by rw [k.sc, h3])
  cases e <;> first | (cases h4; done) | skip
  · rename_i t kk it cs b own
    have h4 : lcA G t kk it cs b own (.ListComp elt gens scope vp) = true := h4
    unfold lcA at h4
    split at h4 <;> first | (cases h4; done) | skip
    rename_i elt tg iter ifs scope vpos he
    cases he
    obtain ⟨h, h7⟩ := and3 h4
    obtain ⟨h, h6⟩ := and3 h
    obtain ⟨h, h5⟩ := and3 h
    obtain ⟨h, h4⟩ := and3 h
    obtain ⟨h, h3⟩ := and3 h
    obtain ⟨h1, h2⟩ := and3 h
    have ok : BlkOk C.N C.env.scope scope (G.own own) := by rw [k.hN, k.sc]; exact blkOk_by h1
    have k' := k.toCok
    have := dt_setLc (spos := pos) (w := w) (R0 := R0) (H0 := H0) k.hK k.calm k.nd hi hx (hw _) (chkI_ok it (tr := true) (W := W) k' h4) ok (fun s H A c fp => chkT_ok t (W := W0) (k'.blk s H scope A c fp) h5) (by rw [own_map]; exact all_mem h3)
      (fun s H A c fp => chkCs_ok cs (k'.blk s H scope A c fp) h6) (fun s H A c fp => (chk_ok b (k'.blk s H scope A c fp) h7).1 rfl) (folded_no (notStar h2))
    rw [own_map] at this
    exact this
  · rename_i t kk it cs t1 k1 it1 cs1 b own own1
    have h4 : lcB G t kk it cs t1 k1 it1 cs1 b own own1 (.ListComp elt gens scope vp) = true := h4
    unfold lcB at h4
    split at h4 <;> first | (cases h4; done) | skip
    rename_i elt tg iter ifs tg1 iter1 ifs1 scope vpos he
    cases he
    obtain ⟨h, h13⟩ := and3 h4
    obtain ⟨h, h12⟩ := and3 h
    obtain ⟨h, h11⟩ := and3 h
    obtain ⟨h, h10⟩ := and3 h
    obtain ⟨h, h9⟩ := and3 h
    obtain ⟨h, h8⟩ := and3 h
    obtain ⟨h, h7⟩ := and3 h
    obtain ⟨h, h6⟩ := and3 h
    obtain ⟨h, h5⟩ := and3 h
    obtain ⟨h, h4⟩ := and3 h
    obtain ⟨h, h3⟩ := and3 h
    obtain ⟨h1, h2⟩ := and3 h
    have ok : BlkOk C.N C.env.scope scope (G.own own) := by rw [k.hN, k.sc]; exact blkOk_by h1
    have k' := k.toCok
    have := dt_setLc2 (spos := pos) (w := w) (R0 := R0) (H0 := H0) k.hK k.calm k.nd hi hx (hw _) (chkI_ok it (tr := true) (W := W) k' h7) ok (by rw [own_map]; exact all_mem h5) (fun s H A c fp => chkT_ok t (W := W0) (k'.blk s H scope A c fp) h8) (by rw [own_map]; exact all_mem h4)
      (fun s H A c fp => chkCs_ok cs (k'.blk s H scope A c fp) h9) (fun s H A c fp => chkI_ok it1 (tr := false) (k'.blk s H scope A c fp) h10) (fun s H A c fp => chkT_ok t1 (W := W0) (k'.blk s H scope A c fp) h11) (all_mem h6)
      (fun s H A c fp => chkCs_ok cs1 (k'.blk s H scope A c fp) h12) (fun s H A c fp => (chk_ok b (k'.blk s H scope A c fp) h13).1 rfl) (folded_no (notStar h2)) (fun env => folded_no (notStar h3))
    rw [own_map] at this
    exact this
theorem dcSet_ok (k : CokS X cl G W C) {t : T} {e : E} {tg v : Expr} (h : dcSet G t e tg v = true) : PS C (.Assign [tg] v pos) (tS X W R0 H0 (evS cl w (.asg t e))) := by
  unfold dcSet at h
  split at h <;> first | (cases h; done) | skip
  rename_i i t1 kk it cs a b own x px kx vx gens scope vp
  obtain ⟨h, h4⟩ := and3 h
  obtain ⟨h, h3⟩ := and3 h
  obtain ⟨h1, h2⟩ := and3 h
  have hi : C.N[i]? = some x := by rw [k.hN]; exact eq_of_beq h1
  have hx : C.env.scope.names.lookup x = some .local := by rw [k.sc]; exact eq_of_beq h2
  have hw : ∀ l, swapsWith (.DictComp kx vx gens scope vp) (some (.Name x px)) l C.env = pure true := fun l => (swaps_dc (l := l) (env := C.env)).trans (by rw [k.sc, h3])
  unfold dcA at h4
  split at h4 <;> first | (cases h4; done) | skip
  rename_i kx vx tg iter ifs scope vpos he
  cases he
  obtain ⟨h, h8⟩ := and3 h4
  obtain ⟨h, h7⟩ := and3 h
  obtain ⟨h, h6⟩ := and3 h
  obtain ⟨h, h5⟩ := and3 h
  obtain ⟨h, h4⟩ := and3 h
  obtain ⟨h, h3⟩ := and3 h
  obtain ⟨h1, h2⟩ := and3 h
  have ok : BlkOk C.N C.env.scope scope (G.own own) := by rw [k.hN, k.sc]; exact blkOk_by h1
  have k' := k.toCok
  have hns : ∀ n ∈ tvs t1, n ∈ (G.own own).map (·.2) := by rw [own_map]; exact all_mem h3
  have := ps_setDcT (spos := pos) (by have := k'.un; omega) k.calm k.nd hi hx (hw _) (chkI_ok it (tr := true) (W := W) k' h4) ok (fun s H A c fp => chkT_ok t1 (W := W0) (k'.blk s H scope A c fp) h5)
    (fun s H A c fp => chkCs_ok cs (k'.blk s H scope A c fp) h6) (fun s H A c fp => (chk_ok a (k'.blk s H scope A c fp) h7).1 rfl) (fun s H A c fp => (chk_ok b (k'.blk s H scope A c fp) h8).1 rfl) (folded_no (notStar h2))
  rw [own_map] at this hns
  exact this.weak fun De σ H h => dc_read (set_val h) hns
theorem newOk_ok (k : Cok X cl G W C) {e : E} {v : Expr} (h : newOk G e v = true) : PE C v (tN X W (evE cl e)) := by
  cases e <;> first | (cases h; done) | skip
  · rename_i o a b
    cases o <;> first | (cases h; done) | skip
    have h : addL G a b v = true := h
    unfold addL at h
    split at h <;> first | (cases h; done) | skip
    rename_i x y q h0
    obtain ⟨h1, h2⟩ := and3 h
    have := dn_add (X := X) (W := W) (pos := q) k.hK ((chk_ok a k h1).2.1 rfl) ((chk_ok b k h2).2.1 rfl)
    have e : evE cl (.bin .Add a b) = fun env => (evE cl a env).bind fun x => (evE cl b env).bind fun y => binD .Add x y := funext fun env => by rw [evE] <;> rfl
    rw [e]
    exact this
  · rename_i es
    have h : newL G es v = true := h
    unfold newL at h
    split at h <;> first | (cases h; done) | skip
    exact dn_lst ((chks_ok _ k h).1 rfl)
  · rename_i bf es
    cases bf <;> first | (cases h; done) | skip
    have h : listL G es v = true := h
    unfold listL at h
    split at h <;> first | (cases h; done) | skip
    rename_i x p y ys q h0
    obtain ⟨h, h5⟩ := and3 h
    obtain ⟨h, h4⟩ := and3 h
    obtain ⟨h, h3⟩ := and3 h
    obtain ⟨h1, h2⟩ := and3 h
    have ex := eq_of_beq h1
    subst ex
    obtain ⟨g1, m1⟩ := Gx.bi_ok k h2
    have := dn_list (X := X) (W := W) (pos := q) (p := p) k.hK g1 m1 ((chks_ok es k h5).2 rfl) (starEach_one (notStar h3)) (plain_star (notStar h4))
    have e : evE cl (.bi .list es) = fun env => (evEs cl es env).bind bList := funext fun env => by rw [evE] <;> rfl
    rw [e]
    exact this
  · rename_i t kk it cs b own
    have h : lcA G t kk it cs b own v = true := h
    unfold lcA at h
    split at h <;> first | (cases h; done) | skip
    rename_i elt tg iter ifs scope vpos _
    obtain ⟨h, h7⟩ := and3 h
    obtain ⟨h, h6⟩ := and3 h
    obtain ⟨h, h5⟩ := and3 h
    obtain ⟨h, h4⟩ := and3 h
    obtain ⟨h, h3⟩ := and3 h
    obtain ⟨h1, h2⟩ := and3 h
    have ok : BlkOk C.N C.env.scope scope (G.own own) := by rw [k.hN, k.sc]; exact blkOk_by h1
    have := dn_lc (pos := vpos) k.hK k.calm k.nd (chkI_ok it (tr := true) (W := W) k h4) ok (fun s H A c fp => chkT_ok t (W := W0) (k.blk s H scope A c fp) h5) (by rw [own_map]; exact all_mem h3)
      (fun s H A c fp => chkCs_ok cs (k.blk s H scope A c fp) h6) (fun s H A c fp => (chk_ok b (k.blk s H scope A c fp) h7).1 rfl) (folded_no (notStar h2))
    rw [own_map] at this
    exact this
theorem ownLc_ok (k : CokS X cl G W C) {i : Nat} {e : E} {x : Str} {px : Pos} {elt : Expr} {gen : Comprehension} {scope : Scope} {vp : Pos} (hi : C.N[i]? = some x) (hx : G.sc.names.lookup x = some .local) (hl : lcAt G.sc scope x px vp = true) (h : newOk G e (.ListComp elt [gen] scope vp) = true) :
    PS C (.Assign [.Name x px] (.ListComp elt [gen] scope vp) pos) (tS X W R0 H0 (evS cl w (.asgOwn i e))) := by
  have hw : ∀ l, swapsWith (.ListComp elt [gen] scope vp) (some (.Name x px)) l C.env = pure true := fun l => (swaps_lc (l := l) (env := C.env)).trans (by rw [k.sc, hl])
  cases e <;> first | (cases h; done) | skip
  · rename_i o a b
    cases o <;> cases h
  · rename_i bf es
    cases bf <;> cases h
  rename_i t kk it cs b own
  have h : lcA G t kk it cs b own (.ListComp elt [gen] scope vp) = true := h
  unfold lcA at h
  split at h <;> first | (cases h; done) | skip
  rename_i elt tg iter ifs scope vpos he
  cases he
  obtain ⟨h, h7⟩ := and3 h
  obtain ⟨h, h6⟩ := and3 h
  obtain ⟨h, h5⟩ := and3 h
  obtain ⟨h, h4⟩ := and3 h
  obtain ⟨h, h3⟩ := and3 h
  obtain ⟨h1, h2⟩ := and3 h
  have ok : BlkOk C.N C.env.scope scope (G.own own) := by rw [k.hN, k.sc]; exact blkOk_by h1
  have k' := k.toCok
  have := dt_ownLc (spos := pos) (w := w) (R0 := R0) (H0 := H0) k.hK k.calm k.nd hi (by rw [k.sc]; exact hx) (hw _) (chkI_ok it (tr := true) (W := W) k' h4) ok (fun s H A c fp => chkT_ok t (W := W0) (k'.blk s H scope A c fp) h5) (by rw [own_map]; exact all_mem h3)
    (fun s H A c fp => chkCs_ok cs (k'.blk s H scope A c fp) h6) (fun s H A c fp => (chk_ok b (k'.blk s H scope A c fp) h7).1 rfl) (folded_no (notStar h2))
  rw [own_map] at this
  exact this
mutual
theorem chkS_ok : ∀ (s : S) {st : Stmt}, CokS X cl G W C → chkS s G st = true → PS C st (tS X W R0 H0 (evS cl w s))
  | .asg t e, st, k, h => by
    unfold chkS at h
    split at h <;> first | (cases h; done) | skip
    rename_i tg v pos
    simp only [Bool.or_eq_true] at h
    rcases h with (((h | h) | h) | h) | h
    · obtain ⟨h, h3⟩ := and3 h
      obtain ⟨h1, h2⟩ := and3 h
      obtain ⟨g1, g2, g3⟩ := gen_ok (l := pos.line) k.toCok h1
      exact dt_asg ((chk_ok e k.toCok h3).1 rfl) (chkT_ok t (W := W) k.toCok h2) g1 g2 g3
    · exact par2_ok k h
    · exact par3_ok k h
    · exact lcSet_ok k h
    · exact dcSet_ok k h
  | .asgOwn i e, st, k, h => by
    unfold chkS at h
    split at h <;> first | (cases h; done) | skip
    rename_i x px v pos
    obtain ⟨h, h3⟩ := and3 h
    obtain ⟨h1, h2⟩ := and3 h
    obtain ⟨s1, s2, s3⟩ := Gx.set_ok k.toCok h1
    rcases Bool.or_eq_true_iff.mp h3 with h3 | h3
    · obtain ⟨g1, g2, g3⟩ := gen_ok (l := pos.line) k.toCok h3
      exact dt_own k.nd s1 s2 (newOk_ok k.toCok h2) g1 s3
    · obtain ⟨h5, h4⟩ := and3 h3
      split at h4 <;> first | (cases h4; done) | skip
      exact ownLc_ok k s1 (eq_of_beq h5) h4 h2
  | .asgTO i j e f, st, k, h => by
    unfold chkS at h
    split at h <;> first | (cases h; done) | skip
    rename_i x px y py kt pt a b k2 p2 pos
    obtain ⟨h, n2⟩ := and3 h
    obtain ⟨h, n1⟩ := and3 h
    rcases Bool.or_eq_true_iff.mp h with h | h
    · unfold parO at h
      simp only [Bool.and_eq_true, beq_iff_eq, bne_iff_ne, Bool.not_eq_true'] at h
      obtain ⟨⟨⟨⟨⟨⟨⟨⟨⟨⟨⟨h1, h2⟩, h3⟩, h4⟩, h5⟩, h6⟩, h7⟩, h8⟩, h9⟩, h10⟩, h11⟩, h12⟩ := h
      refine dt_parO k.calm k.nd (by rw [k.hN]; exact h2) (by rw [k.hN]; exact h3) h4 (by rw [k.sc]; exact h6) (by rw [k.sc]; exact h7) ((chk_ok e k.toCok n1).1 rfl) (newOk_ok k.toCok n2)
        (starEach_one h9) (starEach_one h10) (stores_par k.sc h1 h9 h10 h6 h7 h8 h5 ?_ ?_) (sole_no rfl)
      · exact h11
      · exact h12
    · unfold parG at h
      simp only [Bool.and_eq_true, bne_iff_ne, Bool.not_eq_true'] at h
      obtain ⟨⟨⟨⟨⟨h1, h2⟩, h3⟩, h4⟩, h5⟩, h6⟩ := h
      obtain ⟨g1, g2, g3⟩ := gen_ok (l := pos.line) k.toCok h1
      obtain ⟨x1, x2, x3⟩ := Gx.set_ok k.toCok h2
      obtain ⟨y1, y2, y3⟩ := Gx.set_ok k.toCok h3
      exact dt_parOG k.calm k.nd x1 y1 h4 x2 y2 x3 y3 ((chk_ok e k.toCok n1).1 rfl) (newOk_ok k.toCok n2) (starEach_one h5) (starEach_one h6) g2 g1 g3
  | .nev, st, k, h => ⟨fun pins s σ H D I ⟨R, env, sto, A, o⟩ => by unfold evS at o; exact o.elim⟩
  | .freeze i, st, k, h => by unfold chkS at h; cases h
  | .app i e, st, k, h => by
    unfold chkS at h
    split at h <;> first | (cases h; done) | skip
    rename_i x _ nm apos a cpos _
    obtain ⟨h, h5⟩ := and3 h
    obtain ⟨h, h4⟩ := and3 h
    obtain ⟨h, h3⟩ := and3 h
    obtain ⟨h1, h2⟩ := and3 h
    have en := eq_of_beq h1
    subst en
    obtain ⟨s1, s2, s3, s4⟩ := Gx.slot_ok k.toCok h2
    have hs := notStar h3
    exact dt_app s1 s2 s3 s4 ((chk_ok e k.toCok h5).1 rfl) (by rw [starEach_one hs]; rfl) h4 (starEach_one hs)
  | .put i kk e, st, k, h => by
    unfold chkS at h
    split at h <;> first | (cases h; done) | skip
    rename_i x _ y spos v pos
    obtain ⟨h, h4⟩ := and3 h
    obtain ⟨h, h3⟩ := and3 h
    obtain ⟨h1, h2⟩ := and3 h
    obtain ⟨s1, s2, s3, s4⟩ := Gx.slot_ok k.toCok h1
    exact dt_put s1 s2 s3 s4 ((chk_ok e k.toCok h4).1 rfl) ((chk_ok kk k.toCok h3).2.1 rfl) (assign_sub (notStar h2)) (sole_no2 rfl) (stores_no (.inl rfl))
  | .expr e, st, k, h => by
    unfold chkS at h
    split at h <;> first | (cases h; done) | skip
    obtain ⟨h1, h2⟩ := and3 h
    exact dt_expr ((chk_ok e k.toCok h2).1 rfl) (swaps_no (notStar h1))
  | .ret e, st, k, h => by
    unfold chkS at h
    split at h <;> first | (cases h; done) | skip
    exact dt_ret ((chk_ok e k.toCok h).1 rfl)
  | .retN, st, k, h => by
    unfold chkS at h
    split at h <;> first | (cases h; done) | skip
    exact dt_retN
  | .retLoc es, st, k, h => by
    unfold chkS at h
    split at h <;> first | (cases h; done) | skip
    exact dt_retLoc ((chks_ok es k.toCok h).1 rfl)
  | .ite c a b, st, k, h => by
    unfold chkS at h
    split at h <;> first | (cases h; done) | skip
    obtain ⟨h, h3⟩ := and3 h
    obtain ⟨h1, h2⟩ := and3 h
    exact dt_if ((chk_ok c k.toCok h1).2.2 rfl).1 (chkSs_ok a k h2) (chkSs_ok b k h3)
  | .loop t kk it b, st, k, h => by
    unfold chkS at h
    split at h <;> first | (cases h; done) | skip
    obtain ⟨h, h4⟩ := and3 h
    obtain ⟨h, h3⟩ := and3 h
    obtain ⟨h1, h2⟩ := and3 h
    exact dt_for k.pass k.calm (chkI_ok it k.toCok h2) (chkT_ok t (W := W) k.toCok h3) (chkSs_ok b k h4) (folded_no (notStar h1))
  | .whil c b, st, k, h => by
    unfold chkS at h
    split at h <;> first | (cases h; done) | skip
    obtain ⟨h1, h2⟩ := and3 h
    exact dt_while k.pass ((chk_ok c k.toCok h1).2.2 rfl).1 (chkSs_ok b k h2)
  | .brk, st, k, h => by
    unfold chkS at h
    split at h <;> first | (cases h; done) | skip
    exact dt_brk
  | .cont, st, k, h => by
    unfold chkS at h
    split at h <;> first | (cases h; done) | skip
    exact dt_cont
  | .pass, st, k, h => by
    unfold chkS at h
    split at h <;> first | (cases h; done) | skip
    · exact dt_pass
    · exact dt_doc
theorem chkSs_ok : ∀ (s : Ss) {sts : List Stmt}, CokS X cl G W C → chkSs s G sts = true → PSs C sts (tS X W R0 H0 (evSs cl w s))
  | .nil, sts, k, h => by
    unfold chkSs at h
    cases sts with
    | nil => exact dt_nil
    | cons _ _ => cases h
  | .cons s r, sts, k, h => by
    unfold chkSs at h
    split at h
    · exact (chkSs_ok r k h).weak fun De σ H q => fr_read q
    · split at h <;> first | (cases h; done) | skip
      obtain ⟨h1, h2⟩ := and3 h
      exact dt_cons (chkS_ok s k h1) (chkSs_ok r k h2)
end
end
end Bc

set_option linter.all false
set_option autoImplicit false
set_option maxRecDepth 100000
set_option maxHeartbeats 2000000
namespace Bc
open PySem PySem.Spec L2

/-! ### binding -/
theorem fm_congr {α β : Type} {f g : α → Option β} : ∀ {l : List α}, (∀ x ∈ l, f x = g x) → l.filterMap f = l.filterMap g
  | [], _ => rfl
  | a :: l, h => by
    rw [List.filterMap_cons, List.filterMap_cons, h a (List.mem_cons_self ..), fm_congr fun x hx => h x (List.mem_cons_of_mem _ hx)]
theorem zip_lookup {ps : List Str} {us : List Value} (nd : ps.Nodup) (hl : us.length = ps.length) : ps.filterMap (fun n => ((ps.zip us).lookup n).map (n, ·)) = ps.zip us := by
  induction ps generalizing us with
  | nil => cases us <;> rfl
  | cons p ps ih =>
    cases us with
    | nil => cases hl
    | cons u us =>
      have nd2 := List.nodup_cons.mp nd
      have h1 : ps.filterMap (fun n => (((p :: ps).zip (u :: us)).lookup n).map (n, ·)) = ps.filterMap (fun n => ((ps.zip us).lookup n).map (n, ·)) := by
        refine fm_congr fun n hn => ?_
        have : (n == p) = false := by
          rw [beq_eq_false_iff_ne]
          exact fun e => nd2.1 (e ▸ hn)
        rw [List.zip_cons_cons, List.lookup_cons, this]
      rw [List.filterMap_cons, List.zip_cons_cons] at *
      rw [h1, ih nd2.2 (by simpa using hl)]
      simp
theorem zip_some {ps : List Str} {us : List Value} (hl : us.length = ps.length) : ∀ n ∈ ps, ((ps.zip us).lookup n).isSome = true := by
  induction ps generalizing us with
  | nil => intro n hn; cases hn
  | cons p ps ih =>
    cases us with
    | nil => cases hl
    | cons u us =>
      intro n hn
      rw [List.zip_cons_cons, List.lookup_cons]
      cases e : n == p with
      | true => rfl
      | false =>
        rcases List.mem_cons.mp hn with rfl | hn
        · simp at e
        · exact ih (by simpa using hl) n hn
theorem bind_kw2 {x qual : Str} {params : Arguments} {body : List Stmt} {scope : Scope} {kV doc pm cdv ct : Value} {an : Option Addr} {k1 k2 : Str} (h1 : params.posonlyargs = []) (h2 : params.args.map (·.arg) = [k2, k1]) (h3 : params.vararg = none) (h4 : params.kwonlyargs = []) (h5 : params.kwarg = none) (nd : k1 ≠ k2)
    (u1 u2 : Value) : bindArgs (PySem.W.fnOf x qual params body scope .none kV doc pm an cdv ct) ⟨[], [(k1, u1), (k2, u2)]⟩ = pure ([k2, k1].zip [u2, u1]) := by
  have n1 : (k1 == k2) = false := by simpa using nd
  have n2 : (k2 == k1) = false := by simpa using fun e : k2 = k1 => nd e.symm
  unfold bindArgs PySem.W.fnOf
  simp only [h1, h2, h3, h4, h5, List.map_nil, List.nil_append, List.append_nil, seqItems?]
  simp [n2, List.lookup_cons, List.filter_cons, List.filterMap_cons]
  rfl
theorem binds_kw2 {K : PySem.W.Frag} {x qual : Str} {params : Arguments} {body : List Stmt} {scope : Scope} {kws : List (Str × V)} {f : Addr} {fd : FuncData} {k1 k2 : Str} (F : FunD K x qual params body scope [] kws f fd) (h1 : params.posonlyargs = []) (h2 : params.args.map (·.arg) = [k2, k1]) (h3 : params.vararg = none) (h4 : params.kwonlyargs = []) (h5 : params.kwarg = none) (nd : k1 ≠ k2) :
    BindsR fd [k2, k1] k1 k2 := by
  obtain ⟨oc, od, dV, kV, doc, pm, an, cdv, ct, osl, rfl, lk, hcd, hD, hK⟩ := F.ex
  rcases hD with ⟨_, rfl⟩ | ⟨e, _⟩
  · exact fun s u1 u2 => .of_eq (bind_kw2 h1 h2 h3 h4 h5 nd u1 u2)
  · exact absurd rfl e
theorem bind_pos {x qual : Str} {params : Arguments} {body : List Stmt} {scope : Scope} {kV doc pm cdv ct : Value} {an : Option Addr} {ps : List Str} (h1 : params.posonlyargs = []) (h2 : params.args.map (·.arg) = ps) (h3 : params.vararg = none) (h4 : params.kwonlyargs = []) (h5 : params.kwarg = none) (nd : ps.Nodup)
    (us : List Value) (hl : us.length = ps.length) : bindArgs (PySem.W.fnOf x qual params body scope .none kV doc pm an cdv ct) ⟨us, []⟩ = pure (ps.zip us) := by
  have hm : (ps.filter fun n => ((ps.zip us).lookup n).isNone) = [] := by
    rw [List.filter_eq_nil_iff]
    intro n hn
    have := zip_some hl n hn
    cases e : (ps.zip us).lookup n with
    | none => rw [e] at this; cases this
    | some _ => simp
  unfold bindArgs PySem.W.fnOf
  simp only [h1, h2, h3, h4, h5, List.map_nil, List.nil_append, List.append_nil, seqItems?, hl]
  simp [hm, zip_lookup nd hl]
  rfl

/-! ### defs -/
/-- a def of the text: its name, its statement, its slots' names (the parameters first), what the evaluator runs -/
structure Fr where
  x : Str
  st : Stmt
  N : List Str
  np : Nat
  body : Ss
def pgOf (frs : List Fr) (tab : Str → List (Str × D)) : Pg := ⟨fun f => frs[f]?.map fun r => ⟨r.np, r.N.length, r.body⟩, fun _ => none, tab⟩
def nodupB : List Str → Bool
  | [] => true
  | x :: r => !r.contains x && nodupB r
theorem nodupB_ok : ∀ {l : List Str}, nodupB l = true → l.Nodup
  | [], _ => .nil
  | x :: r, h => by
    unfold nodupB at h
    obtain ⟨h1, h2⟩ := and3 h
    exact List.nodup_cons.mpr ⟨by simpa using h1, nodupB_ok h2⟩
def scopeOk (N P : List Str) (sc : Scope) : Bool :=
  (match sc.kind with | .function => true | _ => false) && !sc.isCoroutine && !sc.isGenerator && nodupB N && P.all (fun x => match sc.names.lookup x with | some .local => true | some .cell => true | _ => false) && sc.names.all fun y => match y.2 with | .free => false | _ => true
theorem scopeOk_ok {N : List Str} {n : Nat} {sc : Scope} (h : scopeOk N (N.take n) sc = true) : FnScope N (N.take n) sc := by
  unfold scopeOk at h
  obtain ⟨h, h6⟩ := and3 h
  obtain ⟨h, h5⟩ := and3 h
  obtain ⟨h, h4⟩ := and3 h
  obtain ⟨h, h3⟩ := and3 h
  obtain ⟨h1, h2⟩ := and3 h
  refine ⟨?_, by simpa using h2, by simpa using h3, nodupB_ok h4, ?_, fun x hx => ?_, fun y hy e => ?_⟩
  · split at h1
    · assumption
    · cases h1
  · rw [List.length_take, List.take_eq_take_iff]; omega
  · have := List.all_eq_true.mp h5 x hx
    split at this
    · rename_i e; exact .inl e
    · rename_i e; exact .inr e
    · cases this
  · have := List.all_eq_true.mp h6 y hy
    rw [e] at this; cases this
def argsOk (a : Arguments) (ps : List Str) : Bool := a.posonlyargs.isEmpty && (a.args.map (·.arg) == ps) && a.vararg.isNone && a.kwonlyargs.isEmpty && a.kwarg.isNone
def frOk (m : Ms) (r : Fr) : Bool := scopeOk r.N (r.N.take r.np) (defScope r.st) && decide (r.np ≤ r.N.length) && argsOk (defArgs r.st) (r.N.take r.np) && chkSs r.body ⟨m, r.N, defScope r.st, defScope r.st⟩ (defBody r.st)
def fnsOf (frs : List Fr) : List (Str × Nat) := frs.zipIdx.map fun p => (p.1.x, p.2)
def parsOf (frs : List Fr) : List (Nat × List Str) := frs.zipIdx.map fun p => (p.2, p.1.N.take p.1.np)

/-- what stands behind the top -/
structure Top (X : Sx) (m : Ms) (frs : List Fr) (tab : Str → List (Str × D)) (P : Program) (w : World) (K : PySem.W.Frag) (mg : Str → Option Value) : Prop where
  hK : X.K = K
  fns : m.fns = fnsOf frs
  pars : m.pars = parsOf frs
  ok : ∀ r ∈ frs, frOk m r = true
  at_ : ∀ (i : Nat) (r : Fr), frs[i]? = some r → ∃ (addr : Addr) (fd : FuncData), FunD K r.x r.x (defArgs r.st) (defBody r.st) (defScope r.st) [] [] addr fd ∧ mg r.x = some (.ref addr)
  bis : ∀ x, x ∈ m.bis → mg x = none
  cons : ∀ x d, m.cons.lookup x = some d → ∃ (v : V) (u : Value), mg x = some u ∧ RelV v u ∧ ∀ R, Rep X R v d
  dcs : ∀ x, x ∈ m.dcs → ∃ p, mg x = some (.ref p) ∧ KTab X K w p (tab x)
theorem lookup_fns {frs : List Fr} {x : Str} {f : Nat} (h : (fnsOf frs).lookup x = some f) : ∃ r, frs[f]? = some r ∧ r.x = x := by
  have hm : (x, f) ∈ fnsOf frs := PySem.mem_of_lookup h
  unfold fnsOf at hm
  obtain ⟨⟨r, i⟩, hp, e⟩ := List.mem_map.mp hm
  have hp2 := List.mem_zipIdx_iff_getElem?.mp hp
  cases e
  exact ⟨r, hp2, rfl⟩
theorem mem_lk {α : Type} : ∀ {l : List (Nat × α)} {f : Nat} {a : α}, l.lookup f = some a → (f, a) ∈ l
  | [], _, _, h => by cases h
  | (g, b) :: l, f, a, h => by
    rw [List.lookup_cons] at h
    cases e : f == g with
    | true =>
      rw [e] at h
      have := eq_of_beq e
      cases h
      subst this
      exact List.mem_cons_self ..
    | false =>
      rw [e] at h
      exact List.mem_cons_of_mem _ (mem_lk h)
theorem lookup_pars {frs : List Fr} {f : Nat} {qs : List Str} {r : Fr} (h : (parsOf frs).lookup f = some qs) (hr : frs[f]? = some r) : r.N.take r.np = qs := by
  have hm : (f, qs) ∈ parsOf frs := mem_lk h
  unfold parsOf at hm
  obtain ⟨⟨r', i⟩, hp, e⟩ := List.mem_map.mp hm
  have hp2 := List.mem_zipIdx_iff_getElem?.mp hp
  cases e
  have hp2 : frs[i]? = some r' := hp2
  rw [hr] at hp2
  cases hp2
  rfl
section
variable {X : Sx} {m : Ms} {frs : List Fr} {tab : Str → List (Str × D)} {P : Program} {w : World} {K : PySem.W.Frag} {mg : Str → Option Value} {base : Heap}
theorem entry {R : Rl} {H : Hp} {sto : Sto} {N : List Str} {np : Nat} {vs : List V} {ds : List D} (S : StOk X R H sto) (r : Reps X R vs ds) (hl : ds.length = np) (hn : np ≤ N.length) : At X R H R H sto (start N vs) (ds.map .val ++ List.replicate (N.length - np) .un) := by
  have hv := r.length
  have no : ∀ (i : Nat) (s : Slot), (ds.map Slot.val ++ List.replicate (N.length - np) Slot.un)[i]? = some s → isOwn s = false := fun i s e => by
    have hm := List.mem_of_getElem? e
    rcases List.mem_append.mp hm with hm | hm
    · obtain ⟨d, _, rfl⟩ := List.mem_map.mp hm; rfl
    · rw [List.eq_of_mem_replicate hm]; rfl
  refine ⟨Grow.refl _ _, S, ⟨?_, fun i s e => ?_, fun i j si sj a e1 e2 o1 o2 => ?_⟩, fun i s a e1 e2 => ?_⟩
  · unfold L2.start
    simp only [List.length_append, List.length_map, List.length_replicate]
    omega
  · by_cases hi : i < ds.length
    · rw [List.getElem?_append_left (by simpa using hi), List.getElem?_map] at e
      have hd : ds[i]? = some ds[i] := by simp [hi]
      rw [hd] at e
      cases e
      obtain ⟨v, e1, r1⟩ := r.get hd
      refine ⟨v, ?_, r1⟩
      unfold L2.start
      rw [List.getElem?_append_left (by simp; omega), List.getElem?_map, e1]; rfl
    · rw [List.getElem?_append_right (by simp; omega)] at e
      have hm := List.mem_of_getElem? e
      rw [List.eq_of_mem_replicate hm]
      trivial
  · rw [no i si e1] at o1; cases o1
  · rw [no i s e1] at e2; cases e2
theorem fn_ok (T : Top X m frs tab P w K mg) (wf : Nat) : ∀ (k f : Nat) (r : Fr) (addr : Addr) (fd : FuncData), frs[f]? = some r → FunD K r.x r.x (defArgs r.st) (defBody r.st) (defScope r.st) [] [] addr fd →
    FnOk P w K mg base (L2.CX P w) k addr fd (r.N.take r.np) (spF X (callF (pgOf frs tab) wf k f))
  | 0, f, r, addr, fd, hf, F => by
    have no : ∀ vs H Q E, ¬ spF X (callF (pgOf frs tab) wf 0 f) vs H Q E := fun vs H Q E ⟨R, sto, ds, S, rp, o⟩ => by unfold callF at o; exact o.elim
    exact ⟨fun vs H Q E h => (no _ _ _ _ h).elim, fun A outer s H args us vs Q E _ _ _ _ h => (no _ _ _ _ h).elim⟩
  | k + 1, f, r, addr, fd, hf, F => by
    have hr := T.ok r (List.mem_of_getElem? hf)
    unfold frOk at hr
    obtain ⟨hr, h4⟩ := and3 hr
    obtain ⟨hr, h3⟩ := and3 hr
    obtain ⟨h1, h2⟩ := and3 hr
    have SC := scopeOk_ok h1
    have hn : r.np ≤ r.N.length := of_decide_eq_true h2
    have hp : (pgOf frs tab).fd f = some ⟨r.np, r.N.length, r.body⟩ := by show frs[f]?.map _ = _; rw [hf]; rfl
    have un : ∀ (ds : List D) (sto : Sto) (W' : Nat → List (Nat × D) → Sto → Prop) (kk : D → Sto → Prop), Out W' (callF (pgOf frs tab) wf (k + 1) f ds sto) kk →
        ds.length = r.np ∧ Out W' (((evSs ⟨callF (pgOf frs tab) wf k, (pgOf frs tab).init, tab⟩ wf r.body (ds.map .val ++ List.replicate (r.N.length - r.np) .un)).bind retOf) sto) kk := fun ds sto W' kk o => by
      unfold callF at o
      rw [hp] at o
      dsimp only at o
      split at o
      · rename_i h; exact ⟨h.1, o⟩
      · exact o.elim
    refine F.ok SC (fun vs H Q E ⟨R, sto, ds, S, rp, o⟩ => ?_) fun cdv A outer s H vs Q E hroom ⟨R, sto, ds, S, rp, o⟩ => ?_
    · rw [rp.length, (un ds sto _ _ o).1, List.length_take]; omega
    · obtain ⟨hl, o⟩ := un ds sto _ _ o
      let C := cxOf (L2.CX P w) P w K mg base r.N r.x (defScope r.st) addr cdv A outer s H E
      have ck : CokS X ⟨callF (pgOf frs tab) wf k, (pgOf frs tab).init, tab⟩ ⟨m, r.N, defScope r.st, defScope r.st⟩ (wX X fun cls d _ H => E cls d H) C := {
        hK := T.hK
        hN := rfl
        nd := SC.nd
        sc := rfl
        calm := rfl
        fn := fun _ _ => rfl
        un := by have := hroom.un; show (A.deeper _).units + 65 < cLine; omega
        wx := ⟨_, takes_of rfl rfl rfl rfl, fun _ _ _ _ _ _ z => z⟩
        fns := fun x f' hx => by
          have hx : m.fns.lookup x = some f' := hx
          rw [T.fns] at hx
          obtain ⟨r', hf', ex⟩ := lookup_fns hx
          obtain ⟨a', fd', F', hm'⟩ := T.at_ f' r' hf'
          have hr' := T.ok r' (List.mem_of_getElem? hf')
          unfold frOk at hr'
          obtain ⟨hr', _⟩ := and3 hr'
          obtain ⟨hr', h3'⟩ := and3 hr'
          obtain ⟨h1', _⟩ := and3 hr'
          unfold argsOk at h3'
          simp only [Bool.and_eq_true, beq_iff_eq, List.isEmpty_iff, Option.isNone_iff_eq_none] at h3'
          obtain ⟨⟨⟨⟨a1, a2⟩, a3⟩, a4⟩, a5⟩ := h3'
          have nd' : (r'.N.take r'.np).Nodup := (List.take_sublist _ _).nodup (scopeOk_ok h1').nd
          refine ⟨a', fd', r'.N.take r'.np, k, by rw [← ex]; exact hm', F'.kp, F'.bindsN fun kV doc pm an cdv ct us hl => bind_pos a1 a2 a3 a4 a5 nd' us hl, hroom, fn_ok T wf k f' r' a' fd' hf' F', fun k1 k2 hk hne => ?_⟩
          have hk : m.pars.lookup f' = some [k2, k1] := hk
          rw [T.pars] at hk
          have e2 := lookup_pars hk hf'
          rw [e2]
          rw [e2] at a2
          exact binds_kw2 F' a1 a2 a3 a4 a5 hne
        bis := T.bis
        cons := T.cons
        dcs := T.dcs
        pass := passes_of rfl
        one := rfl }
      refine ⟨tS X (wX X fun cls d _ H => E cls d H) R H (evSs ⟨callF (pgOf frs tab) wf k, (pgOf frs tab).init, tab⟩ wf r.body), chkSs_ok r.body ck h4, R, _, sto, entry S rp hl hn, (Out.bind o).imp (fun p s' o' => ?_) fun c fs s' z σ H' R' g' le S' cls d ex => z H' R' g' S' cls d ex⟩
      obtain ⟨fl, env'⟩ := p
      cases fl with
      | nx => exact fun σ H' R' A' le => (show ∀ v H' R', Grow R H R' H' → StOk X R' H' s' → Rep X R' v .non → Q v H' from o') .non H' R' A'.g A'.S .non
      | rt d => exact fun v H' R' g' le S' r' => (show ∀ v H' R', Grow R H R' H' → StOk X R' H' s' → Rep X R' v d → Q v H' from o') v H' R' g' S' r'
      | bk => exact o'.elim
      | ct => exact o'.elim
/-! ### the law -/
def spLaw (K : PySem.W.Frag) (n : Nat) : Sp := fun vs H Q _ => ∃ (a : Addr) (ns : List Int), vs = [.ref a] ∧ ns.length ≤ n ∧ SqL K H a (ns.map V.int) ∧ ∀ H', Q (.bl true) H'
theorem law_ok (T : Top X m frs tab P w K mg) {k f : Nat} {r : Fr} {addr : Addr} {fd : FuncData} {x : Str} {n : Nat} (hf : frs[f]? = some r) (F : FunD K r.x r.x (defArgs r.st) (defBody r.st) (defScope r.st) [] [] addr fd) (hx : r.N.take r.np = [x])
    (law : ∀ ns : List Int, ns.length ≤ n → ∃ wf s, callF (pgOf frs tab) wf k f [.ro (ns.map .int)] [] = .ok (.bl true, s)) : FnOk P w K mg base CX0 k addr fd [x] (spLaw K n) := by
  refine ⟨fun vs H Q E ⟨a, ns, e, _⟩ => by rw [e]; rfl, fun A outer s H args us vs Q E hr e0 hb hv hsp => ?_⟩
  obtain ⟨a, ns, rfl, hn, hS, hQ⟩ := hsp
  obtain ⟨wf, sf, e⟩ := law ns hn
  have FF := fn_ok (base := base) T wf k f r addr fd hf F
  rw [hx] at FF
  refine codeAny_mono (FF.run A outer s H args us [.ref a] Q (fun _ _ _ => False) hr e0 hb hv ⟨⟨H, fun _ => none, []⟩, [], [.ro (ns.map .int)], ⟨fun _ _ z => z, fun a o z => (by cases (show (none : Option HO) = some o from z)), rfl, .nil, fun n a ds z => by cases (show (none : Option Addr) = some a from (by simpa using z))⟩, .cons (.ro (by rw [T.hK]; exact hS) (Reps.of_ints ns)) .nil, ?_⟩) fun r' s' hq => ?_
  · rw [e]
    exact fun v H' R' g S r => by cases r; exact hQ H'
  · cases r' with
    | ok fl => cases fl <;> exact hq
    | error er =>
      obtain ⟨_, _, _, _, _, _, _, _, _, _, _, _, z⟩ := hq
      exact z
end
end Bc

set_option linter.all false
set_option autoImplicit false
set_option maxRecDepth 100000
set_option maxHeartbeats 2000000
namespace Bc
open PySem PySem.Spec L2

/-! ### what the head tells -/
def fnL (frs : List Fr) : List He.DefD := frs.map fun r => ⟨(r.x, none), r.x, r.x, defArgs r.st, defBody r.st, defScope r.st, [], []⟩
def faC (p : Str × D) : He.Fa := match p.2 with
  | .int i => .int p.1 i
  | .str z => .str p.1 z
  | _ => .free p.1
def faL (m : Ms) (frs : List Fr) : List He.Fa := frs.map (fun r => .glo r.x) ++ (m.bis.map (fun x => .free x) ++ (m.cons.map faC ++ m.dcs.map (fun x => .glo x)))
def tsL (m : Ms) (tab : Str → List (Str × D)) : List He.Tab := m.dcs.map fun x => ((fun K => He.ga K x), (tab x).map (·.1))
def relU : Value → D → Bool
  | .int i _, .int j => i == j
  | .str i _, .str j => i == j
  | .bool i, .bl j => i == j
  | .none, .non => true
  | _, _ => false
theorem relU_ok {X : Sx} {u : Value} {d : D} (h : relU u d = true) : ∃ v, RelV v u ∧ ∀ R, Rep X R v d := by
  unfold relU at h
  split at h <;> first | (cases h; done) | skip
  · have e := eq_of_beq h
    subst e
    exact ⟨.int _, ⟨_, rfl⟩, fun _ => .int _⟩
  · have e := eq_of_beq h
    subst e
    exact ⟨.str _, ⟨_, rfl⟩, fun _ => .str _⟩
  · have e := eq_of_beq h
    subst e
    exact ⟨.bl _, rfl, fun _ => .bl _⟩
  · exact ⟨.non, rfl, fun _ => .non⟩
def entsB : List DictEntry → List (Str × D) → Bool
  | [], [] => true
  | e :: es, (k, d) :: r => (match e.key with
    | .str x _ => x == k
    | _ => false) && relU e.val d && entsB es r
  | _, _ => false
def dctB (K : PySem.W.Frag) (a : Addr) (tb : List (Str × D)) : Bool := match K.lookup a with
  | some ⟨_, _, .dict es _, _⟩ => entsB es.toList tb
  | _ => false
def exL (m : Ms) (tab : Str → List (Str × D)) (K : PySem.W.Frag) : Bool := m.dcs.all fun x => dctB K (He.ga K x) (tab x)
theorem ents_find {X : Sx} (z : Str) : ∀ {es : List DictEntry} {tb : List (Str × D)}, entsB es tb = true →
    es.any (·.refKey) = false ∧ ((tb.lookup z = none ∧ es.find? (·.key.isStr z) = none) ∨ ∃ d v e, tb.lookup z = some d ∧ es.find? (·.key.isStr z) = some e ∧ RelV v e.val ∧ ∀ R, Rep X R v d)
  | [], [], _ => ⟨rfl, .inl ⟨rfl, rfl⟩⟩
  | [], _ :: _, h => by cases h
  | _ :: _, [], h => by cases h
  | e :: es, (k, d) :: r, h => by
    unfold entsB at h
    obtain ⟨h12, h3⟩ := and3 h
    obtain ⟨h1, h2⟩ := and3 h12
    obtain ⟨i1, i2⟩ := ents_find (X := X) z h3
    clear h h12
    obtain ⟨hs, key, val⟩ := e
    cases key <;> first | (cases h1; done) | skip
    rename_i x t
    have ex : x = k := eq_of_beq h1
    subst ex
    refine ⟨?_, ?_⟩
    · rw [List.any_cons, i1]; rfl
    · by_cases hz : z = x
      · subst hz
        obtain ⟨v, r1, r2⟩ := relU_ok (X := X) h2
        refine .inr ⟨d, v, ⟨hs, .str z t, val⟩, by simp, ?_, r1, r2⟩
        rw [List.find?_cons]
        have : (Value.str z t).isStr z = true := by show (z == z) = true; simp
        rw [this]
      · have hz2 : (z == x) = false := by simpa using hz
        have hf : (Value.str x t).isStr z = false := by
          show (x == z) = false
          simpa using fun h : x = z => hz h.symm
        rcases i2 with ⟨a, b⟩ | ⟨d', v, e', a, b, c1, c2⟩
        · refine .inl ⟨by rw [List.lookup_cons, hz2]; exact a, ?_⟩
          rw [List.find?_cons, hf]; exact b
        · refine .inr ⟨d', v, e', by rw [List.lookup_cons, hz2]; exact a, ?_, c1, c2⟩
          rw [List.find?_cons, hf]; exact b
section
variable {X : Sx} {m : Ms} {frs : List Fr} {tab : Str → List (Str × D)} {P : Program} {w : World} {K : PySem.W.Frag} {mg : Str → Option Value} {h : Heap}
theorem ktab_of {p : Addr} {tb : List (Str × D)} {es : Array DictEntry} {n : Nat} (kd : KDict K w p es n) (e : dctB K p tb = true) : KTab X K w p tb := by
  obtain ⟨hl, hk, low⟩ := kd
  unfold dctB at e
  rw [hl] at e
  refine ⟨⟨es, n, hl, hk⟩, low, fun z => ?_⟩
  obtain ⟨i1, i2⟩ := ents_find (X := X) z e
  unfold PySem.W.nsIn
  rw [hl]
  rcases i2 with ⟨a, b⟩ | ⟨d, v, e', a, b, c1, c2⟩
  · refine .inl ⟨a, ?_⟩
    show (match es.toList.find? (·.key.isStr z) with
      | some e => some (some e.val)
      | none => if es.toList.any (·.refKey) then none else some none) = some none
    rw [b, i1]; rfl
  · refine .inr ⟨d, v, e'.val, a, ?_, c1, c2⟩
    show (match es.toList.find? (·.key.isStr z) with
      | some e => some (some e.val)
      | none => if es.toList.any (·.refKey) then none else some none) = _
    rw [b]
def conOk (m : Ms) : Bool := m.cons.all fun p => match p.2 with
  | .int _ => true
  | .str _ => true
  | _ => false
theorem top_of {tf : List He.Defn} (hX : X.K = K) (KX : K.In h) (G : h.Ns mainGlobals mg) (c : He.SaysX (faL m frs) (fnL frs) (tsL m tab) tf (exL m tab) w h K) (hm : m.fns = fnsOf frs) (hc : conOk m = true) (ok : frs.all (frOk m) = true) (hp : m.pars = parsOf frs := by rfl) : Top X m frs tab P w K mg where
  hK := hX
  fns := hm
  pars := hp
  ok := fun r hr => List.all_eq_true.mp ok r hr
  at_ := fun i r hr => by
    have hr := List.mem_of_getElem? hr
    obtain ⟨fd, F⟩ := c.t.d.defs (d := ⟨(r.x, none), r.x, r.x, defArgs r.st, defBody r.st, defScope r.st, [], []⟩) (List.mem_map.mpr ⟨r, hr, rfl⟩)
    exact ⟨_, fd, F, He.glo_ok KX G (c.t.d.facts (f := .glo r.x) (List.mem_append_left _ (List.mem_map.mpr ⟨r, hr, rfl⟩)))⟩
  bis := fun x hx => He.free_ok KX G (c.t.d.facts (f := .free x) (List.mem_append_right _ (List.mem_append_left _ (List.mem_map.mpr ⟨x, hx, rfl⟩))))
  cons := fun x d hd => by
    have hm := PySem.mem_of_lookup hd
    have hk := List.all_eq_true.mp hc _ hm
    have hf := c.t.d.facts (f := faC (x, d)) (List.mem_append_right _ (List.mem_append_right _ (List.mem_append_left _ (List.mem_map.mpr ⟨_, hm, rfl⟩))))
    cases d <;> first | (cases hk; done) | skip
    · obtain ⟨t, e⟩ := He.int_ok KX G hf
      exact ⟨.int _, _, e, ⟨t, rfl⟩, fun _ => .int _⟩
    · obtain ⟨t, e⟩ := He.str_ok KX G hf
      exact ⟨.str _, _, e, ⟨t, rfl⟩, fun _ => .str _⟩
  dcs := fun x hx => by
    have hg := He.glo_ok KX G (c.t.d.facts (f := .glo x) (List.mem_append_right _ (List.mem_append_right _ (List.mem_append_right _ (List.mem_map.mpr ⟨x, hx, rfl⟩)))))
    have hb := List.all_eq_true.mp c.more x hx
    obtain ⟨i, hi, e⟩ := List.mem_iff_getElem.mp hx
    obtain ⟨es, n, kd⟩ := c.t.tab i (t := ((fun K => He.ga K x), (tab x).map (·.1))) (by
      show (m.dcs.map _)[i]? = _
      rw [List.getElem?_map, List.getElem?_eq_getElem hi, e]; rfl)
    exact ⟨_, hg, ktab_of kd hb⟩
end
end Bc

set_option linter.all false
set_option autoImplicit false
set_option maxRecDepth 100000
set_option maxHeartbeats 1000000
namespace Bc
open PySem PySem.Spec L2

/-! ### the evaluator's monad, for plain reasoning -/
section
variable {α β γ : Type}
@[simp] theorem pure_eq (a : α) : (pure a : M α) = M.pure a := (rfl)
theorem bind_eq (m : M α) (f : α → M β) : (m >>= f) = m.bind f := rfl
@[simp] theorem pure_bind' (a : α) (f : α → M β) : (M.pure a).bind f = f a := by funext s; rfl
@[simp] theorem bind_assoc' (m : M α) (f : α → M β) (g : β → M γ) : (m.bind f).bind g = m.bind fun a => (f a).bind g := by
  funext s
  unfold M.bind
  cases m s <;> rfl
@[simp] theorem bind_pure' (m : M α) : (m.bind fun a => M.pure a) = m := by
  funext s
  unfold M.bind M.pure
  cases m s <;> rfl
@[simp] theorem ofOpt_some' (a : α) : ofOpt (some a) = M.pure a := (rfl)
@[simp] theorem need_true' : need true = M.pure () := by funext s; rfl
theorem need_of {b : Bool} (h : b = true) : need b = M.pure () := by subst h; exact need_true'
@[simp] theorem noX_pure (a : α) : noX (M.pure a) = M.pure a := (rfl)
@[simp] theorem truM_bl (b : Bool) : truM (.bl b) = M.pure b := (rfl)
@[simp] theorem truM_int (i : Int) : truM (.int i) = M.pure (i != 0) := (rfl)
@[simp] theorem truM_non : truM .non = M.pure false := (rfl)
@[simp] theorem truM_tup (xs : List D) : truM (.tup xs) = M.pure (!xs.isEmpty) := (rfl)
@[simp] theorem truM_lst (b : Bool) (xs : List D) : truM (.lst b xs) = M.pure (!xs.isEmpty) := (rfl)
theorem ite_pure (b : Bool) (x y : α) : (if b then (M.pure x : M α) else M.pure y) = M.pure (if b then x else y) := by cases b <;> rfl
end
/-- a comprehension without tests, its items' values known -/
theorem mapO_all {f : D → M (Option D)} {g : D → D} : ∀ {xs : List D}, (∀ x ∈ xs, f x = M.pure (some (g x))) → mapO f xs = M.pure (xs.map g)
  | [], _ => rfl
  | x :: xs, h => by
    unfold mapO
    rw [h x (List.mem_cons_self ..), mapO_all fun y hy => h y (List.mem_cons_of_mem _ hy)]
    rfl
theorem mapO_some {f : D → M (Option D)} {p : D → Bool} {g : D → D} : ∀ {xs : List D}, (∀ x ∈ xs, f x = M.pure (if p x then some (g x) else none)) → mapO f xs = M.pure ((xs.filter p).map g)
  | [], _ => rfl
  | x :: xs, h => by
    unfold mapO
    rw [h x (List.mem_cons_self ..), mapO_some fun y hy => h y (List.mem_cons_of_mem _ hy)]
    cases hp : p x with
    | true => simp [pure_bind', hp, List.filter_cons, pure_eq]
    | false => simp [pure_bind', hp, List.filter_cons, pure_eq]
theorem asBls_map {α : Type} (p : α → Bool) : ∀ xs : List α, asBls (xs.map fun x => D.bl (p x)) = some (xs.map p)
  | [] => rfl
  | x :: xs => by
    rw [List.map_cons, List.map_cons]
    unfold asBls
    rw [asBls_map p xs]; rfl
theorem asInts_map {α : Type} (p : α → Int) : ∀ xs : List α, asInts (xs.map fun x => D.int (p x)) = some (xs.map p)
  | [] => rfl
  | x :: xs => by
    rw [List.map_cons, List.map_cons]
    unfold asInts
    rw [asInts_map p xs]; rfl
theorem asStrs_map {α : Type} (p : α → Str) : ∀ xs : List α, asStrs (xs.map fun x => D.str (p x)) = some (xs.map p)
  | [] => rfl
  | x :: xs => by
    rw [List.map_cons, List.map_cons]
    unfold asStrs
    rw [asStrs_map p xs]; rfl
theorem all_id {α : Type} (p : α → Bool) (xs : List α) : (xs.map p).all id = xs.all p := by rw [List.all_map]; rfl
theorem any_id {α : Type} (p : α → Bool) (xs : List α) : (xs.map p).any id = xs.any p := by rw [List.any_map]; rfl
theorem bAll_map {α : Type} (p : α → Bool) (xs : List α) (b : Bool) : bAll [.lst b (xs.map fun x => D.bl (p x))] = M.pure (.bl (xs.all p)) := by
  show (ofOpt (asBls _)).bind _ = _
  rw [asBls_map, ofOpt_some', pure_bind', all_id]; rfl
theorem bAny_map {α : Type} (p : α → Bool) (xs : List α) (b : Bool) : bAny [.lst b (xs.map fun x => D.bl (p x))] = M.pure (.bl (xs.any p)) := by
  show (ofOpt (asBls _)).bind _ = _
  rw [asBls_map, ofOpt_some', pure_bind', any_id]; rfl
/-! ### the evaluator's equations -/
def negD : D → M D
  | .int i => M.pure (.int (-i))
  | _ => stuck
def intO : D → M (Option Int)
  | .int i => M.pure (some i)
  | _ => stuck
def thenD (r : D) (m : M D) : M D := match r with
  | .bl true => m
  | .bl false => M.pure (.bl false)
  | _ => stuck
def kgetD (t : List (Str × D)) (x y : D) : M D := match x with
  | .str z => M.pure ((t.lookup z).getD y)
  | _ => stuck
def ownD (env : Env) (i : Nat) (x : D) : M (Fl × Env) := match x with
  | .lst true xs => if i < env.length then M.pure (.nx, env.set i (.own xs)) else stuck
  | _ => stuck
def ownTO (env : Env) (i j : Nat) (x y : D) : M (Fl × Env) := match y with
  | .lst true xs => if i < env.length ∧ j < env.length then M.pure (.nx, (env.set i (.val x)).set j (.own xs)) else stuck
  | _ => stuck
/-- behind a statement -/
def seqM (f : Env → M (Fl × Env)) : Fl × Env → M (Fl × Env)
  | (.nx, env) => f env
  | (.rt d, env) => M.pure (.rt d, env)
  | (.bk, env) => M.pure (.bk, env)
  | (.ct, env) => M.pure (.ct, env)

@[simp] theorem evE_var {c : Cl} {env : Env} {i : Nat} : evE c (.var i) env = (match env[i]? with | some (.val d) => M.pure d | _ => stuck) := by rw [evE] <;> rfl
@[simp] theorem evE_own {c : Cl} {env : Env} {i : Nat} : evE c (.own i) env = (match env[i]? with | some (.own xs) => M.pure (.lst false xs) | some (.ownK kvs) => M.pure (.dK false kvs) | some (.ownT kvs) => M.pure (.dT false kvs) | _ => stuck) := by rw [evE] <;> rfl
@[simp] theorem evE_int {c : Cl} {env : Env} {i : Int} : evE c (.int i) env = M.pure (.int i) := by rw [evE] <;> rfl
@[simp] theorem evE_bl {c : Cl} {env : Env} {b : Bool} : evE c (.bl b) env = M.pure (.bl b) := by rw [evE] <;> rfl
@[simp] theorem evE_non {c : Cl} {env : Env} : evE c (.non) env = M.pure .non := by rw [evE] <;> rfl
@[simp] theorem evE_str {c : Cl} {env : Env} {x : Str} : evE c (.str x) env = M.pure (.str x) := by rw [evE] <;> rfl
@[simp] theorem evE_glob {c : Cl} {env : Env} {d : D} : evE c (.glob d) env = M.pure d := by rw [evE] <;> rfl
@[simp] theorem evE_bin {c : Cl} {env : Env} {o : Operator} {a b : E} : evE c (.bin o a b) env = (evE c a env).bind fun x => (evE c b env).bind fun y => binD o x y := by rw [evE] <;> rfl
@[simp] theorem evE_neg {c : Cl} {env : Env} {a : E} : evE c (.neg a) env = (evE c a env).bind negD := by rw [evE] <;> rfl
@[simp] theorem evE_not {c : Cl} {env : Env} {a : E} : evE c (.not a) env = (evE c a env).bind fun x => (truM x).bind fun b => M.pure (.bl (!b)) := by rw [evE] <;> rfl
@[simp] theorem evE_cmp {c : Cl} {env : Env} {o : CmpOp} {a b : E} : evE c (.cmp o a b) env = (evE c a env).bind fun x => (evE c b env).bind fun y => cmpD o x y := by rw [evE] <;> rfl
@[simp] theorem evE_cmp2 {c : Cl} {env : Env} {o o' : CmpOp} {a b e : E} : evE c (Bc.E.cmp2 o o' a b e) env = (evE c a env).bind fun x => (evE c b env).bind fun y => (cmpD o x y).bind fun r => thenD r ((evE c e env).bind fun z => cmpD o' y z) := by rw [evE] <;> rfl
@[simp] theorem evE_and {c : Cl} {env : Env} {a b : E} : evE c (.and a b) env = (evE c a env).bind fun x => (truM x).bind fun k => if k then evE c b env else M.pure x := by rw [evE] <;> rfl
@[simp] theorem evE_or {c : Cl} {env : Env} {a b : E} : evE c (.or a b) env = (evE c a env).bind fun x => (truM x).bind fun k => if k then M.pure x else evE c b env := by rw [evE] <;> rfl
@[simp] theorem evE_ite {c : Cl} {env : Env} {t a b : E} : evE c (.ite t a b) env = (evE c t env).bind fun x => (truM x).bind fun k => if k then evE c a env else evE c b env := by rw [evE] <;> rfl
@[simp] theorem evE_tup {c : Cl} {env : Env} {es : Es} : evE c (.tup es) env = (evEs c es env).bind fun ds => (need (lenOk ds.length)).bind fun _ => M.pure (.tup ds) := by rw [evE] <;> rfl
@[simp] theorem evE_lst {c : Cl} {env : Env} {es : Es} : evE c (.lst es) env = (evEs c es env).bind fun ds => (need (lenOk ds.length)).bind fun _ => M.pure (.lst true ds) := by rw [evE] <;> rfl
@[simp] theorem evE_sub {c : Cl} {env : Env} {a i : E} : evE c (.sub a i) env = (evE c a env).bind fun x => (evE c i env).bind fun y => subD x y := by rw [evE] <;> rfl
@[simp] theorem evE_slice {c : Cl} {env : Env} {a : E} {lo hi : Op} : evE c (.slice a lo hi) env = (evE c a env).bind fun x => (evO c lo env).bind fun l => (evO c hi env).bind fun h => sliceD x l h := by rw [evE] <;> rfl
@[simp] theorem evE_rev {c : Cl} {env : Env} {a : E} {s : Op} : evE c (.rev a s) env = (evE c a env).bind fun x => (evO c s env).bind fun o => revO x o := by rw [evE] <;> rfl
@[simp] theorem evE_call {c : Cl} {env : Env} {f : Nat} {es : Es} : evE c (.call f es) env = (evEs c es env).bind fun ds => c.call f ds := by rw [evE] <;> rfl
@[simp] theorem evE_call0 {c : Cl} {env : Env} {f : Nat} : evE c (.call0 f) env = c.call f [] := by rw [evE] <;> rfl
@[simp] theorem evE_callR {c : Cl} {env : Env} {f : Nat} {a b : E} : evE c (.callR f a b) env = (evE c a env).bind fun x => (evE c b env).bind fun y => c.call f [y, x] := by rw [evE] <;> rfl
@[simp] theorem evE_isi {c : Cl} {env : Env} {a : E} {ts : List Ty} : evE c (.isi a ts) env = (evE c a env).bind fun x => (ofOpt (isiDs x ts)).bind fun b => M.pure (.bl b) := by rw [evE] <;> rfl
@[simp] theorem evE_bi {c : Cl} {env : Env} {b : Bf} {es : Es} : evE c (.bi b es) env = (evEs c es env).bind fun ds => bfD b ds := by rw [evE] <;> rfl
@[simp] theorem evE_bm {c : Cl} {env : Env} {b : Bm} {a : E} {es : Es} : evE c (.bm b a es) env = (evE c a env).bind fun x => (noX (evEs c es env)).bind fun ds => bmD b x ds := by rw [evE] <;> rfl
@[simp] theorem evE_kget {c : Cl} {env : Env} {t : Str} {a b : E} : evE c (.kget t a b) env = (evE c a env).bind fun x => (evE c b env).bind fun y => kgetD (c.tab t) x y := by rw [evE] <;> rfl
@[simp] theorem evE_lc {c : Cl} {env : Env} {t : T} {k : Itb} {it cs : Es} {e : E} {own : List Nat} : evE c (.lc t k it cs e own) env = (evEs c it env).bind fun ds => (itD k ds).bind fun items => (noX (mapO (fun d => (asgT c t d (wipe env own)).bind fun env1 => (evCs c cs env1).bind fun b => if b then (evE c e env1).bind fun y => M.pure (some y) else M.pure none) items)).bind fun ys => (need (lenOk ys.length)).bind fun _ => M.pure (.lst true ys) := by rw [evE] <;> rfl
@[simp] theorem evEs_nil {c : Cl} {env : Env} : evEs c (.nil) env = M.pure [] := by rw [evEs] <;> rfl
@[simp] theorem evEs_cons {c : Cl} {env : Env} {e : E} {r : Es} : evEs c (.cons e r) env = (evE c e env).bind fun x => (evEs c r env).bind fun xs => M.pure (x :: xs) := by rw [evEs] <;> rfl
@[simp] theorem evEs_star {c : Cl} {env : Env} {e : E} {r : Es} : evEs c (.star e r) env = (evE c e env).bind fun x => (ofOpt (asSeq x)).bind fun xs => (evEs c r env).bind fun ys => M.pure (xs ++ ys) := by rw [evEs] <;> rfl
@[simp] theorem evCs_nil {c : Cl} {env : Env} : evCs c (.nil) env = M.pure true := by rw [evCs] <;> rfl
@[simp] theorem evCs_cons {c : Cl} {env : Env} {e : E} {r : Es} : evCs c (.cons e r) env = (evE c e env).bind fun x => (truM x).bind fun b => if b then evCs c r env else M.pure false := by rw [evCs] <;> rfl
@[simp] theorem evO_no {c : Cl} {env : Env} : evO c (.no) env = M.pure none := by rw [evO] <;> rfl
@[simp] theorem evO_ex {c : Cl} {env : Env} {e : E} : evO c (.ex e) env = (evE c e env).bind intO := by rw [evO] <;> rfl
@[simp] theorem asgT_nm {c : Cl} {env : Env} {i : Nat} {d : D} : asgT c (.nm i) (d) env = (if i < env.length then M.pure (env.set i (.val d)) else stuck) := by rw [asgT] <;> rfl
@[simp] theorem asgT_tp {c : Cl} {env : Env} {ts : Ts} {xs : List D} : asgT c (.tp ts) (.tup xs) env = asgTs c ts xs env := by rw [asgT] <;> rfl
@[simp] theorem asgT_tpl {c : Cl} {env : Env} {ts : Ts} {xs : List D} : asgT c (.tp ts) (.lst true xs) env = asgTs c ts xs env := by rw [asgT] <;> rfl
@[simp] theorem asgT_sub {c : Cl} {env : Env} {a k : E} {d : D} : asgT c (.sub a k) (d) env = (noX (evE c a env)).bind fun x => (noX (evE c k env)).bind fun y => (setSub x y d).bind fun _ => M.pure env := by rw [asgT] <;> rfl
@[simp] theorem asgTs_nil {c : Cl} {env : Env}  : asgTs c (.nil) ([]) env = M.pure env := by rw [asgTs] <;> rfl
@[simp] theorem asgTs_cons {c : Cl} {env : Env} {t : T} {r : Ts} {x : D} {xs : List D} : asgTs c (.cons t r) (x :: xs) env = (asgT c t x env).bind fun env1 => asgTs c r xs env1 := by rw [asgTs] <;> rfl
@[simp] theorem evS_asg {c : Cl} {w : Nat} {env : Env} {t : T} {e : E} : evS c w (.asg t e) env = (evE c e env).bind fun x => (asgT c t x env).bind fun env1 => M.pure (.nx, env1) := by rw [evS] <;> rfl
@[simp] theorem evS_asgOwn {c : Cl} {w : Nat} {env : Env} {i : Nat} {e : E} : evS c w (.asgOwn i e) env = (evE c e env).bind (ownD env i) := by rw [evS] <;> rfl
@[simp] theorem evS_asgTO {c : Cl} {w : Nat} {env : Env} {i j : Nat} {e f : E} : evS c w (.asgTO i j e f) env = (evE c e env).bind fun x => (evE c f env).bind (ownTO env i j x) := by rw [evS] <;> rfl
@[simp] theorem evS_freeze {c : Cl} {w : Nat} {env : Env} {i : Nat} : evS c w (.freeze i) env = (match env[i]? with | some (.own xs) => M.pure (.nx, env.set i (.val (.lst true xs))) | some (.ownK xs) => M.pure (.nx, env.set i (.val (.dK true xs))) | some (.ownT xs) => M.pure (.nx, env.set i (.val (.dT true xs))) | _ => stuck) := by rw [evS] <;> rfl
@[simp] theorem evS_app {c : Cl} {w : Nat} {env : Env} {i : Nat} {e : E} : evS c w (.app i e) env = (match env[i]? with | some (.own xs) => (evE c e env).bind fun x => (need (decide (xs.length < LINE))).bind fun _ => M.pure (.nx, env.set i (.own (xs ++ [x]))) | _ => stuck) := by rw [evS] <;> rfl
@[simp] theorem evS_expr {c : Cl} {w : Nat} {env : Env} {e : E} : evS c w (.expr e) env = (evE c e env).bind fun _ => M.pure (.nx, env) := by rw [evS] <;> rfl
@[simp] theorem evS_ret {c : Cl} {w : Nat} {env : Env} {e : E} : evS c w (.ret e) env = (evE c e env).bind fun x => M.pure (.rt x, env) := by rw [evS] <;> rfl
@[simp] theorem evS_retN {c : Cl} {w : Nat} {env : Env} : evS c w (.retN) env = M.pure (.rt .non, env) := by rw [evS] <;> rfl
@[simp] theorem evS_retLoc {c : Cl} {w : Nat} {env : Env} {es : Es} : evS c w (.retLoc es) env = (evEs c es env).bind fun ds => (need (lenOk ds.length)).bind fun _ => (newLoc ds).bind fun d => M.pure (.rt d, env) := by rw [evS] <;> rfl
@[simp] theorem evS_ite {c : Cl} {w : Nat} {env : Env} {t : E} {a b : Ss} : evS c w (.ite t a b) env = (evE c t env).bind fun x => (truM x).bind fun k => if k then evSs c w a env else evSs c w b env := by rw [evS] <;> rfl
@[simp] theorem evS_loop {c : Cl} {w : Nat} {env : Env} {t : T} {k : Itb} {it : Es} {b : Ss} : evS c w (.loop t k it b) env = (evEs c it env).bind fun ds => (itD k ds).bind fun items => forL (fun d env1 => (asgT c t d env1).bind fun env2 => evSs c w b env2) items env := by rw [evS] <;> rfl
@[simp] theorem evS_whil {c : Cl} {w : Nat} {env : Env} {t : E} {b : Ss} : evS c w (.whil t b) env = whileL (fun env1 => (evE c t env1).bind truM) (evSs c w b) w env := by rw [evS] <;> rfl
@[simp] theorem evS_brk {c : Cl} {w : Nat} {env : Env} : evS c w (.brk) env = M.pure (.bk, env) := by rw [evS] <;> rfl
@[simp] theorem evS_cont {c : Cl} {w : Nat} {env : Env} : evS c w (.cont) env = M.pure (.ct, env) := by rw [evS] <;> rfl
@[simp] theorem evS_pass {c : Cl} {w : Nat} {env : Env} : evS c w (.pass) env = M.pure (.nx, env) := by rw [evS] <;> rfl
@[simp] theorem evSs_nil {c : Cl} {w : Nat} {env : Env} : evSs c w (.nil) env = M.pure (.nx, env) := by rw [evSs] <;> rfl
@[simp] theorem evSs_cons {c : Cl} {w : Nat} {env : Env} {s : S} {r : Ss} : evSs c w (.cons s r) env = (evS c w s env).bind (seqM fun env1 => evSs c w r env1) := by rw [evSs] <;> rfl

@[simp] theorem seqM_nx {f : Env → M (Fl × Env)} {env : Env} : seqM f (.nx, env) = f env := (rfl)
@[simp] theorem seqM_rt {f : Env → M (Fl × Env)} {env : Env} {d : D} : seqM f (.rt d, env) = M.pure (.rt d, env) := (rfl)
@[simp] theorem seqM_bk {f : Env → M (Fl × Env)} {env : Env} : seqM f (.bk, env) = M.pure (.bk, env) := (rfl)
@[simp] theorem seqM_ct {f : Env → M (Fl × Env)} {env : Env} : seqM f (.ct, env) = M.pure (.ct, env) := (rfl)
@[simp] theorem retOf_rt {env : Env} {d : D} : retOf (.rt d, env) = M.pure d := (rfl)
@[simp] theorem retOf_nx {env : Env} : retOf (.nx, env) = M.pure .non := (rfl)
@[simp] theorem thenD_t {m : M D} : thenD (.bl true) m = m := (rfl)
@[simp] theorem thenD_f {m : M D} : thenD (.bl false) m = M.pure (.bl false) := (rfl)
@[simp] theorem thenD_b {b : Bool} {m : M D} : thenD (.bl b) m = if b then m else M.pure (.bl false) := by cases b <;> rfl
@[simp] theorem negD_int {i : Int} : negD (.int i) = M.pure (.int (-i)) := (rfl)
@[simp] theorem intO_int {i : Int} : intO (.int i) = M.pure (some i) := (rfl)
@[simp] theorem kgetD_str {t : List (Str × D)} {z : Str} {y : D} : kgetD t (.str z) y = M.pure ((t.lookup z).getD y) := (rfl)
@[simp] theorem ownTO_lst {env : Env} {i j : Nat} {x : D} {xs : List D} : ownTO env i j x (.lst true xs) = if i < env.length ∧ j < env.length then M.pure (.nx, (env.set i (.val x)).set j (.own xs)) else stuck := (rfl)
@[simp] theorem ownD_lst {env : Env} {i : Nat} {xs : List D} : ownD env i (.lst true xs) = if i < env.length then M.pure (.nx, env.set i (.own xs)) else stuck := (rfl)
end Bc

set_option linter.all false
set_option autoImplicit false
set_option maxRecDepth 100000
set_option maxHeartbeats 1000000
namespace Bc
open PySem PySem.Spec L2

/-! ### operations, for plain reasoning -/
@[simp] theorem bfD_len : bfD .len = bLen := (rfl)
@[simp] theorem bfD_abs : bfD .abs = bAbs := (rfl)
@[simp] theorem bfD_min2 : bfD .min2 = bMin := (rfl)
@[simp] theorem bfD_max2 : bfD .max2 = bMax := (rfl)
@[simp] theorem bfD_int1 : bfD .int1 = bInt := (rfl)
@[simp] theorem bfD_bool1 : bfD .bool1 = bBool := (rfl)
@[simp] theorem bfD_sum : bfD .sum = bSum := (rfl)
@[simp] theorem bfD_any : bfD .any = bAny := (rfl)
@[simp] theorem bfD_all : bfD .all = bAll := (rfl)
@[simp] theorem bfD_tuple : bfD .tuple = bTuple := (rfl)
@[simp] theorem bfD_list : bfD .list = bList := (rfl)
@[simp] theorem bfD_sorted : bfD .sorted = bSorted := (rfl)
@[simp] theorem bfD_str1 : bfD .str1 = bStr := (rfl)
@[simp] theorem bfD_divmod : bfD .divmod = bDivmod := (rfl)
@[simp] theorem bLen_tup (xs : List D) : bLen [.tup xs] = M.pure (.int xs.length) := (rfl)
@[simp] theorem bLen_lst (b : Bool) (xs : List D) : bLen [.lst b xs] = M.pure (.int xs.length) := (rfl)
@[simp] theorem bLen_ro (xs : List D) : bLen [.ro xs] = M.pure (.int xs.length) := (rfl)
theorem bLen_str {x : Str} (h : x.length ≤ LINE) : bLen [.str x] = M.pure (.int x.length) := by
  show (if x.length ≤ LINE then (M.pure (D.int x.length) : M D) else stuck) = _
  rw [if_pos h]
@[simp] theorem bMin_ii (i j : Int) : bMin [.int i, .int j] = M.pure (.int (if j < i then j else i)) := (rfl)
@[simp] theorem bMax_ii (i j : Int) : bMax [.int i, .int j] = M.pure (.int (if j > i then j else i)) := (rfl)
@[simp] theorem bAbs_i (i : Int) : bAbs [.int i] = M.pure (.int (if i < 0 then -i else i)) := (rfl)
@[simp] theorem bInt_i (i : Int) : bInt [.int i] = M.pure (.int i) := (rfl)
@[simp] theorem bInt_b (i : Bool) : bInt [.bl i] = M.pure (.int (if i then 1 else 0)) := (rfl)
@[simp] theorem bStr_s (x : Str) : bStr [.str x] = M.pure (.str x) := (rfl)
@[simp] theorem bTuple_tup (xs : List D) : bTuple [.tup xs] = M.pure (.tup xs) := (rfl)
@[simp] theorem bTuple_lst (b : Bool) (xs : List D) : bTuple [.lst b xs] = M.pure (.tup xs) := (rfl)
@[simp] theorem bList_tup (xs : List D) : bList [.tup xs] = M.pure (.lst true xs) := (rfl)
@[simp] theorem bList_lst (b : Bool) (xs : List D) : bList [.lst b xs] = M.pure (.lst true xs) := (rfl)
@[simp] theorem bAll_nil (b : Bool) : bAll [.lst b []] = M.pure (.bl true) := (rfl)
@[simp] theorem bAny_nil (b : Bool) : bAny [.lst b []] = M.pure (.bl false) := (rfl)
@[simp] theorem itD_seq : itD .seq = itSeq := (rfl)
@[simp] theorem itD_r1 : itD .range1 = itR1 := (rfl)
@[simp] theorem itD_r2 : itD .range2 = itR2 := (rfl)
@[simp] theorem itD_zip : itD .zip = itZip := (rfl)
@[simp] theorem itSeq_tup (xs : List D) : itSeq [.tup xs] = M.pure xs := (rfl)
@[simp] theorem itSeq_lst (b : Bool) (xs : List D) : itSeq [.lst b xs] = M.pure xs := (rfl)
@[simp] theorem itSeq_ro (xs : List D) : itSeq [.ro xs] = M.pure xs := (rfl)
@[simp] theorem itSeq_str (z : Str) : itSeq [.str z] = M.pure (z.cps.toList.map fun c => .str ⟨#[c]⟩) := (rfl)
theorem itR1_nat {n : Nat} (h : n < 2 ^ 62) : itR1 [.int n] = M.pure ((List.range n).map fun (m : Nat) => D.int m) := by
  have e (j : Int) : itR1 [.int j] = (need (decide (-(2 ^ 62) ≤ j ∧ j < 2 ^ 62))).bind fun _ => M.pure ((List.range j.toNat).map fun (n : Nat) => .int n) := rfl
  rw [e, need_of (decide_eq_true (by omega)), pure_bind']
  rfl
theorem itR2_nat {a b : Nat} (h : a < 2 ^ 62) (h' : b < 2 ^ 62) : itR2 [.int a, .int b] = M.pure ((List.range (b - a)).map fun (m : Nat) => D.int ((a + m : Nat) : Int)) := by
  have e (i j : Int) : itR2 [.int i, .int j] = (need (decide (-(2 ^ 62) ≤ i ∧ i < 2 ^ 62 ∧ -(2 ^ 62) ≤ j ∧ j < 2 ^ 62))).bind fun _ => M.pure ((List.range (j - i).toNat).map fun (n : Nat) => .int (i + n)) := rfl
  rw [e, need_of (decide_eq_true (by omega)), pure_bind', show ((b : Int) - (a : Int)).toNat = b - a by omega]
  simp
theorem itR2_1 {b : Nat} (h' : b < 2 ^ 62) : itR2 [.int 1, .int b] = M.pure ((List.range (b - 1)).map fun (m : Nat) => D.int ((m + 1 : Nat) : Int)) := by
  have := itR2_nat (a := 1) (b := b) (by decide) h'
  rw [show ((1 : Nat) : Int) = 1 from rfl] at this
  rw [this]
  congr 2
  funext m
  rw [Nat.add_comm]
theorem toLine {n : Nat} (h : n ≤ 16777216) : n ≤ LINE := h
theorem to62 {n : Nat} (h : n ≤ 16777216) : n < 2 ^ 62 := by omega
def ltO {α : Type} (lt : α → α → Bool) : Option α → Option α → Bool
  | some a, some b => lt a b
  | _, _ => false
/-- each item ahead of the next, by its place -/
def ascB {α : Type} (lt : α → α → Bool) (xs : List α) : Bool := (List.range (xs.length - 1)).all fun i => ltO lt xs[i]? xs[i + 1]?
theorem ascB_nil {α : Type} (lt : α → α → Bool) : ascB lt [] = true := rfl
theorem ascB_one {α : Type} (lt : α → α → Bool) (a : α) : ascB lt [a] = true := rfl
theorem ascB_cons {α : Type} (lt : α → α → Bool) (a b : α) (r : List α) : ascB lt (a :: b :: r) = (lt a b && ascB lt (b :: r)) := by
  unfold ascB
  rw [show (a :: b :: r).length - 1 = (b :: r).length - 1 + 1 by simp, List.range_succ_eq_map, List.all_cons, List.all_map]
  rfl
theorem cast_pred (m : Nat) : ((m + 1 : Nat) : Int) - 1 = (m : Int) := by omega
@[simp] theorem itZip_tt (xs ys : List D) : itZip [.tup xs, .tup ys] = M.pure ((xs.zip ys).map fun p => .tup [p.1, p.2]) := (rfl)
@[simp] theorem itZip_tl (b : Bool) (xs ys : List D) : itZip [.tup xs, .lst b ys] = M.pure ((xs.zip ys).map fun p => .tup [p.1, p.2]) := (rfl)
@[simp] theorem itZip_ll (b b' : Bool) (xs ys : List D) : itZip [.lst b xs, .lst b' ys] = M.pure ((xs.zip ys).map fun p => .tup [p.1, p.2]) := (rfl)
@[simp] theorem cmpD_lt_i (i j : Int) : cmpD .Lt (.int i) (.int j) = M.pure (.bl (decide (i < j))) := (rfl)
@[simp] theorem cmpD_gt_i (i j : Int) : cmpD .Gt (.int i) (.int j) = M.pure (.bl (decide (j < i))) := (rfl)
@[simp] theorem cmpD_le_i (i j : Int) : cmpD .LtE (.int i) (.int j) = M.pure (.bl (decide (i ≤ j))) := (rfl)
@[simp] theorem cmpD_ge_i (i j : Int) : cmpD .GtE (.int i) (.int j) = M.pure (.bl (decide (j ≤ i))) := (rfl)
@[simp] theorem cmpD_lt_s (i j : Str) : cmpD .Lt (.str i) (.str j) = M.pure (.bl (decide (i.cps.toList < j.cps.toList))) := (rfl)
theorem int_beq (i j : Int) : (i == j) = decide (i = j) := by
  by_cases h : i = j
  · subst h; simp
  · simp [h]
@[simp] theorem eqD_i (i j : Int) : eqD (.int i) (.int j) = some (decide (i = j)) := by
  show some (i == j) = _
  rw [int_beq]
@[simp] theorem cmpD_eq_i (i j : Int) : cmpD .Eq (.int i) (.int j) = M.pure (.bl (decide (i = j))) := by unfold cmpD; rw [eqD_i]; rfl
@[simp] theorem cmpD_ne_i (i j : Int) : cmpD .NotEq (.int i) (.int j) = M.pure (.bl (!decide (i = j))) := by unfold cmpD; rw [eqD_i]; rfl
@[simp] theorem eqD_b (i j : Bool) : eqD (.bl i) (.bl j) = some (i == j) := (rfl)
@[simp] theorem cmpD_eq_b (i j : Bool) : cmpD .Eq (.bl i) (.bl j) = M.pure (.bl (i == j)) := (rfl)
@[simp] theorem cmpD_is_b (i j : Bool) : cmpD .Is (.bl i) (.bl j) = M.pure (.bl (decide (i = j))) := (rfl)
@[simp] theorem cmpD_isnot_b (i j : Bool) : cmpD .IsNot (.bl i) (.bl j) = M.pure (.bl (!decide (i = j))) := (rfl)
/-- the text's signs may lie in memory -/
def okS (x : Str) : Bool := PyData.canLay0 (.str x)
theorem eqD_s {i j : Str} (h : okS i = true) (h' : okS j = true) : eqD (.str i) (.str j) = some (i == j) := by
  unfold eqD
  show (if SeqAt.shaped (.str i) && SeqAt.shaped (.str j) then some (i == j) else none) = _
  rw [if_pos]
  unfold SeqAt.shaped
  rw [show PyData.canLay0 (.str i) = true from h, show PyData.canLay0 (.str j) = true from h']
  rfl
theorem cmpD_eq_s {i j : Str} (h : okS i = true) (h' : okS j = true) : cmpD .Eq (.str i) (.str j) = M.pure (.bl (i == j)) := by unfold cmpD; rw [eqD_s h h']; rfl
theorem cmpD_ne_s {i j : Str} (h : okS i = true) (h' : okS j = true) : cmpD .NotEq (.str i) (.str j) = M.pure (.bl (!(i == j))) := by unfold cmpD; rw [eqD_s h h']; rfl
theorem cmpD_in {x y : D} {b : Bool} (h : inD x y = some b) : cmpD .In x y = M.pure (.bl b) := by unfold cmpD; rw [h]; rfl
theorem cmpD_notin {x y : D} {b : Bool} (h : inD x y = some b) : cmpD .NotIn x y = M.pure (.bl (!b)) := by unfold cmpD; rw [h]; rfl
theorem cmpD_eq {x y : D} {b : Bool} (h : eqD x y = some b) : cmpD .Eq x y = M.pure (.bl b) := by unfold cmpD; rw [h]; rfl
theorem cmpD_ne {x y : D} {b : Bool} (h : eqD x y = some b) : cmpD .NotEq x y = M.pure (.bl (!b)) := by unfold cmpD; rw [h]; rfl
@[simp] theorem binD_add (i j : Int) : binD .Add (.int i) (.int j) = M.pure (.int (i + j)) := (rfl)
@[simp] theorem binD_sub (i j : Int) : binD .Sub (.int i) (.int j) = M.pure (.int (i - j)) := (rfl)
theorem binD_mul {i j : Int} (h : mulOk i j = true) : binD .Mult (.int i) (.int j) = M.pure (.int (i * j)) := by
  show (need _).bind _ = _
  rw [need_of h]; rfl
theorem binD_mod {i j : Int} (h : 0 < j) : binD .Mod (.int i) (.int j) = M.pure (.int (i % j)) := by
  show (need _).bind _ = _
  rw [need_of (by simpa using h)]; rfl
theorem binD_div {i j : Int} (h : pyDiv i j = true) : binD .FloorDiv (.int i) (.int j) = M.pure (.int (i / j)) := by
  show (need _).bind _ = _
  rw [need_of h]; rfl
@[simp] theorem binD_and (i j : Int) : binD .BitAnd (.int i) (.int j) = M.pure (.int (Builtin.bitAnd i j)) := (rfl)
theorem binD_shr {i : Int} {j : Nat} : binD .RShift (.int i) (.int j) = M.pure (.int (i / 2 ^ j)) := by
  have e (i j : Int) : binD .RShift (.int i) (.int j) = (need (decide (0 ≤ j))).bind fun _ => M.pure (.int (i / 2 ^ j.toNat)) := rfl
  rw [e, need_of (decide_eq_true (by omega)), pure_bind']
  simp
theorem lenOk_of {n : Nat} (h : n ≤ LINE) : lenOk n = true := by unfold lenOk; exact decide_eq_true h
theorem need_len {n : Nat} (h : n ≤ LINE) : need (lenOk n) = M.pure () := need_of (lenOk_of h)
theorem binD_addT {a b : List D} (h : a.length + b.length ≤ LINE) : binD .Add (.tup a) (.tup b) = M.pure (.tup (a ++ b)) := by
  show (need _).bind _ = _
  rw [need_len h]; rfl
theorem binD_addL {a b : List D} {f f' : Bool} (h : a.length + b.length ≤ LINE) : binD .Add (.lst f a) (.lst f' b) = M.pure (.lst true (a ++ b)) := by
  show (need _).bind _ = _
  rw [need_len h]; rfl
theorem binD_addS {a b : Str} (h : a.length + b.length ≤ LINE) : binD .Add (.str a) (.str b) = M.pure (.str (a ++ b)) := by
  show (need _).bind _ = _
  rw [need_len h]; rfl
theorem atI_ofNat {α : Type} (xs : List α) (n : Nat) : L2.atI xs (n : Int) = xs[n]? := by
  unfold L2.atI L2.ixN
  rw [if_pos (by omega)]
  by_cases h : n < xs.length
  · rw [if_pos (by omega)]; simp
  · rw [if_neg (by omega)]; simp; omega
@[simp] theorem atI_0 {α : Type} (xs : List α) : L2.atI xs 0 = xs[0]? := atI_ofNat xs 0
@[simp] theorem atI_1 {α : Type} (xs : List α) : L2.atI xs 1 = xs[1]? := atI_ofNat xs 1
@[simp] theorem atI_2 {α : Type} (xs : List α) : L2.atI xs 2 = xs[2]? := atI_ofNat xs 2
@[simp] theorem atI_3 {α : Type} (xs : List α) : L2.atI xs 3 = xs[3]? := atI_ofNat xs 3
theorem atI_m1 {α : Type} (xs : List α) : L2.atI xs (-1) = xs.getLast? := by
  unfold L2.atI L2.ixN
  rw [if_neg (by omega)]
  cases xs with
  | nil => rfl
  | cons x xs =>
    rw [if_pos (by simp; omega), Option.bind_some, List.getLast?_eq_getElem?]
    congr 1
    simp; omega
@[simp] theorem subD_tup (xs : List D) (i : Int) : subD (.tup xs) (.int i) = ofOpt (L2.atI xs i) := (rfl)
@[simp] theorem subD_lst (b : Bool) (xs : List D) (i : Int) : subD (.lst b xs) (.int i) = ofOpt (L2.atI xs i) := (rfl)
@[simp] theorem subD_ro (xs : List D) (i : Int) : subD (.ro xs) (.int i) = ofOpt (L2.atI xs i) := (rfl)
theorem subD_at {xs : List D} {n : Nat} {d : D} (h : xs[n]? = some d) : subD (.tup xs) (.int (n : Int)) = M.pure d := by rw [subD_tup, atI_ofNat, h]; rfl
theorem subD_atL {b : Bool} {xs : List D} {n : Nat} {d : D} (h : xs[n]? = some d) : subD (.lst b xs) (.int (n : Int)) = M.pure d := by rw [subD_lst, atI_ofNat, h]; rfl
@[simp] theorem sliceD_tup (xs : List D) (lo hi : Option Int) : sliceD (.tup xs) lo hi = M.pure (.tup (cutD xs lo hi)) := (rfl)
@[simp] theorem sliceD_lst (b : Bool) (xs : List D) (lo hi : Option Int) : sliceD (.lst b xs) lo hi = M.pure (.lst true (cutD xs lo hi)) := (rfl)
@[simp] theorem revO_tup (xs : List D) : revO (.tup xs) (some (-1)) = M.pure (.tup xs.reverse) := (rfl)
@[simp] theorem revO_lst (b : Bool) (xs : List D) : revO (.lst b xs) (some (-1)) = M.pure (.lst true xs.reverse) := (rfl)
theorem cut_to (xs : List D) (n : Nat) : cutD xs none (some (n : Int)) = xs.take n := by
  unfold cutD
  rw [HT.sIx_none, HT.sIx_nat, List.drop_zero, Nat.sub_zero]
  by_cases h : n ≤ xs.length
  · rw [Nat.min_eq_left h]
  · rw [Nat.min_eq_right (by omega), List.take_of_length_le (Nat.le_refl _), List.take_of_length_le (by omega)]
theorem cut_from (xs : List D) (n : Nat) : cutD xs (some (n : Int)) none = xs.drop n := by
  unfold cutD
  rw [HT.sIx_none, HT.sIx_nat]
  by_cases h : n ≤ xs.length
  · rw [Nat.min_eq_left h, List.take_of_length_le (by simp)]
  · rw [Nat.min_eq_right (by omega)]; simp; omega
theorem sIx_neg (n d : Nat) : HT.sIx n d (some (-1)) = n - 1 := by
  show (if (-1 : Int) < 0 then ((-1 : Int) + (n : Int)).toNat else min (-1 : Int).toNat n) = n - 1
  rw [if_pos (by omega)]
  omega
theorem cut_to1 (xs : List D) : cutD xs none (some (-1)) = xs.dropLast := by
  unfold cutD
  rw [HT.sIx_none, sIx_neg, List.drop_zero, List.dropLast_eq_take, Nat.sub_zero]
theorem cut_last (xs : List D) : cutD xs (some (-1)) none = xs.drop (xs.length - 1) := by
  unfold cutD
  rw [HT.sIx_none, sIx_neg, List.take_of_length_le (by simp)]
@[simp] theorem truM_str0 : truM (.str Str.empty) = M.pure false := (rfl)
@[simp] theorem wipe_nil (env : Env) : Bc.wipe env [] = env := (rfl)
@[simp] theorem wipe_cons (env : Env) (v : Nat) (vs : List Nat) : Bc.wipe env (v :: vs) = (Bc.wipe env vs).set v .un := (rfl)
@[simp] theorem asSeq_tup (xs : List D) : asSeq (.tup xs) = some xs := (rfl)
@[simp] theorem asSeq_lst (b : Bool) (xs : List D) : asSeq (.lst b xs) = some xs := (rfl)
@[simp] theorem evE_lc2 {c : Cl} {env : Env} {t t1 : T} {k k1 : Itb} {it cs it1 cs1 : Es} {e : E} {own own1 : List Nat} : evE c (.lc2 t k it cs t1 k1 it1 cs1 e own own1) env = (evEs c it env).bind fun ds => (itD k ds).bind fun items =>
      (noX (flatO (fun d => (asgT c t d (Bc.wipe env own)).bind fun env1 => (evCs c cs env1).bind fun b =>
        if b then (evEs c it1 env1).bind fun ds1 => (itD k1 ds1).bind fun items1 =>
          mapO (fun d1 => (asgT c t1 d1 (Bc.wipe env1 own1)).bind fun env2 => (evCs c cs1 env2).bind fun b2 => if b2 then (evE c e env2).bind fun y => M.pure (some y) else M.pure none) items1
        else M.pure []) items)).bind fun ys =>
      (need (lenOk ys.length)).bind fun _ => M.pure (.lst true ys) := by rw [evE] <;> rfl
theorem mapO_nil (f : D → M (Option D)) : mapO f [] = M.pure [] := rfl
theorem mapO_cons1 (f : D → M (Option D)) (x : D) (xs : List D) : mapO f (x :: xs) = (f x).bind fun o => (mapO f xs).bind fun r => match o with
    | some y => M.pure (y :: r)
    | none => M.pure r := rfl
theorem flatO_nil (f : D → M (List D)) : flatO f [] = M.pure [] := rfl
theorem flatO_cons1 (f : D → M (List D)) (x : D) (xs : List D) : flatO f (x :: xs) = (f x).bind fun o => (flatO f xs).bind fun r => M.pure (o ++ r) := rfl
/-! ### isinstance -/
@[simp] theorem isi_tup_tuple (xs : List D) : isiDs (.tup xs) [.tuple] = some true := (rfl)
@[simp] theorem isi_lst_tuple (b : Bool) (xs : List D) : isiDs (.lst b xs) [.tuple] = some false := (rfl)
@[simp] theorem isi_int_tuple (i : Int) : isiDs (.int i) [.tuple] = some false := (rfl)
@[simp] theorem isi_bl_tuple (i : Bool) : isiDs (.bl i) [.tuple] = some false := (rfl)
@[simp] theorem isi_str_tuple (i : Str) : isiDs (.str i) [.tuple] = some false := (rfl)
@[simp] theorem isi_non (t : Ty) : isiDs .non [t] = some false := by cases t <;> rfl
@[simp] theorem isi_str_str (i : Str) : isiDs (.str i) [.str] = some true := (rfl)
@[simp] theorem isi_bl_bool (i : Bool) : isiDs (.bl i) [.bool] = some true := (rfl)
@[simp] theorem isi_int_bool (i : Int) : isiDs (.int i) [.bool] = some false := (rfl)
@[simp] theorem isi_str_bool (i : Str) : isiDs (.str i) [.bool] = some false := (rfl)
@[simp] theorem isi_lst_bool (b : Bool) (xs : List D) : isiDs (.lst b xs) [.bool] = some false := (rfl)
@[simp] theorem isi_tup_bool (xs : List D) : isiDs (.tup xs) [.bool] = some false := (rfl)
@[simp] theorem isi_tup_str (xs : List D) : isiDs (.tup xs) [.str] = some false := (rfl)
@[simp] theorem isi_lst_str (b : Bool) (xs : List D) : isiDs (.lst b xs) [.str] = some false := (rfl)
@[simp] theorem isi_int_str (i : Int) : isiDs (.int i) [.str] = some false := (rfl)
@[simp] theorem isi_bl_str (i : Bool) : isiDs (.bl i) [.str] = some false := (rfl)
theorem mapO_map {α : Type} {f : D → M (Option D)} {e g : α → D} : ∀ {xs : List α}, (∀ x ∈ xs, f (e x) = M.pure (some (g x))) → mapO f (xs.map e) = M.pure (xs.map g)
  | [], _ => rfl
  | x :: xs, h => by
    rw [List.map_cons]
    unfold mapO
    rw [h x (List.mem_cons_self ..), mapO_map fun y hy => h y (List.mem_cons_of_mem _ hy)]
    rfl
theorem mapO_mapF {α : Type} {f : D → M (Option D)} {p : α → Bool} {e g : α → D} : ∀ {xs : List α}, (∀ x ∈ xs, f (e x) = M.pure (if p x then some (g x) else none)) → mapO f (xs.map e) = M.pure ((xs.filter p).map g)
  | [], _ => rfl
  | x :: xs, h => by
    rw [List.map_cons]
    unfold mapO
    rw [h x (List.mem_cons_self ..), mapO_mapF fun y hy => h y (List.mem_cons_of_mem _ hy)]
    cases hp : p x with
    | true => simp [pure_bind', hp, List.filter_cons, pure_eq]
    | false => simp [pure_bind', hp, List.filter_cons, pure_eq]
/-- a loop as a fold; j is what else the frame keeps -/
theorem forL_fold {α β J : Type} {f : D → Env → M (Fl × Env)} {e : β → D} (mk : α → J → Env) (step : α → β → α) (I : α → Prop) : ∀ {xs : List β} {a : α} {j : J}, I a → (∀ x ∈ xs, ∀ a j, I a → I (step a x) ∧ ∃ j', f (e x) (mk a j) = M.pure (.nx, mk (step a x) j')) → ∃ j', forL f (xs.map e) (mk a j) = M.pure (.nx, mk (xs.foldl step a) j') ∧ I (xs.foldl step a)
  | [], a, j, hI, _ => ⟨j, rfl, hI⟩
  | x :: xs, a, j, hI, h => by
    obtain ⟨h1, j1, e1⟩ := h x (List.mem_cons_self ..) a j hI
    obtain ⟨j2, e2, i2⟩ := forL_fold mk step I (xs := xs) (a := step a x) (j := j1) h1 fun y hy => h y (List.mem_cons_of_mem _ hy)
    refine ⟨j2, ?_, i2⟩
    rw [List.map_cons]
    unfold forL
    rw [e1, pure_bind']
    exact e2
/-- .. with what follows -/
theorem forL_then {α β γ J : Type} {f : D → Env → M (Fl × Env)} {e : β → D} (mk : α → J → Env) (step : α → β → α) (I : α → Prop) {xs : List β} {a : α} {j : J} {g : Fl × Env → M γ} {r : M γ} (hI : I a)
    (hf : ∀ x ∈ xs, ∀ a j, I a → I (step a x) ∧ ∃ j', f (e x) (mk a j) = M.pure (.nx, mk (step a x) j')) (hr : ∀ j', I (xs.foldl step a) → g (.nx, mk (xs.foldl step a) j') = r) : (forL f (xs.map e) (mk a j)).bind g = r := by
  obtain ⟨j', h, i⟩ := forL_fold mk step I hI hf
  rw [h, pure_bind']
  exact hr j' i
/-- a loop that returns at the first item that p finds -/
theorem forL_find {β J : Type} {f : D → Env → M (Fl × Env)} {e : β → D} (mk : J → Env) (p : β → Bool) (d : D) : ∀ {xs : List β} {j : J}, (∀ x ∈ xs, ∀ j, ∃ j', f (e x) (mk j) = M.pure (if p x then .rt d else .nx, mk j')) → ∃ j', forL f (xs.map e) (mk j) = M.pure (if xs.any p then .rt d else .nx, mk j')
  | [], j, _ => ⟨j, rfl⟩
  | x :: xs, j, h => by
    obtain ⟨j1, e1⟩ := h x (List.mem_cons_self ..) j
    cases hp : p x with
    | true =>
      refine ⟨j1, ?_⟩
      rw [hp] at e1
      rw [List.map_cons]
      unfold forL
      rw [e1, List.any_cons, hp]
      rfl
    | false =>
      obtain ⟨j2, e2⟩ := forL_find mk p d (xs := xs) (j := j1) fun y hy => h y (List.mem_cons_of_mem _ hy)
      refine ⟨j2, ?_⟩
      rw [hp] at e1
      rw [List.map_cons]
      unfold forL
      rw [e1, List.any_cons, hp]
      exact e2
theorem forL_find_then {β γ J : Type} {f : D → Env → M (Fl × Env)} {e : β → D} (mk : J → Env) (p : β → Bool) (d : D) {xs : List β} {j : J} {g : Fl × Env → M γ} {r : M γ}
    (hf : ∀ x ∈ xs, ∀ j, ∃ j', f (e x) (mk j) = M.pure (if p x then .rt d else .nx, mk j')) (hr : ∀ j', g (if xs.any p then .rt d else .nx, mk j') = r) : (forL f (xs.map e) (mk j)).bind g = r := by
  obtain ⟨j', h⟩ := forL_find mk p d hf
  rw [h, pure_bind']
  exact hr j'
/-! ### runs with a store -/
/-- m runs from each store of P to an end of Q -/
def Tri {α : Type} (P : Sto → Prop) (m : M α) (Q : α → Sto → Prop) : Prop := ∀ s, P s → ∃ a s', m s = .ok (a, s') ∧ Q a s'
section
variable {α β : Type} {P P' : Sto → Prop} {Q Q' : α → Sto → Prop}
theorem Tri.pure {a : α} (h : ∀ s, P s → Q a s) : Tri P (M.pure a) Q := fun s hs => ⟨a, s, rfl, h s hs⟩
theorem Tri.bind {m : M α} {f : α → M β} {R : β → Sto → Prop} (h : Tri P m Q) (h' : ∀ a, Tri (Q a) (f a) R) : Tri P (m.bind f) R := fun s hs => by
  obtain ⟨a, s', e, q⟩ := h s hs
  obtain ⟨b, s2, e2, r⟩ := h' a s' q
  exact ⟨b, s2, by unfold M.bind; rw [e]; exact e2, r⟩
theorem Tri.weaken {m : M α} (h : Tri P m Q) (hq : ∀ a s, Q a s → Q' a s) : Tri P m Q' := fun s hs => by
  obtain ⟨a, s', e, q⟩ := h s hs
  exact ⟨a, s', e, hq a s' q⟩
theorem Tri.pre {m : M α} (h : Tri P m Q) (hp : ∀ s, P' s → P s) : Tri P' m Q := fun s hs => h s (hp s hs)
theorem Tri.noX {m : M α} (h : Tri P m Q) : Tri P (noX m) Q := fun s hs => by
  obtain ⟨a, s', e, q⟩ := h s hs
  exact ⟨a, s', by unfold Bc.noX; rw [e], q⟩
theorem Tri.eq {m m' : M α} (e : m = m') (h : Tri P m' Q) : Tri P m Q := e ▸ h
/-- a fact of the end taken out -/
theorem Tri.bindF {m : M α} {f : α → M β} {F : α → Prop} {S : α → Sto → Prop} {R : β → Sto → Prop} (h : Tri P m fun a s => F a ∧ S a s) (h' : ∀ a, F a → Tri (S a) (f a) R) : Tri P (m.bind f) R := fun s hs => by
  obtain ⟨a, s', e, q, q'⟩ := h s hs
  obtain ⟨b, s2, e2, r⟩ := h' a q s' q'
  exact ⟨b, s2, by unfold M.bind; rw [e]; exact e2, r⟩
end
inductive All2 {α β : Type} (F : α → β → Prop) : List α → List β → Prop
  | nil : All2 F [] []
  | cons {x : α} {y : β} {xs : List α} {ys : List β} : F x y → All2 F xs ys → All2 F (x :: xs) (y :: ys)
theorem All2.length {α β : Type} {F : α → β → Prop} {xs : List α} {ys : List β} (h : All2 F xs ys) : ys.length = xs.length := by
  induction h with
  | nil => rfl
  | cons _ _ ih => simp [ih]
/-- items by a right inverse -/
theorem All2.map {α β γ : Type} {F : α → β → Prop} {G : α → γ → Prop} {f : γ → β} (h : ∀ x y, F x y → ∃ z, y = f z ∧ G x z) {xs : List α} {ys : List β} (hs : All2 F xs ys) : ∃ zs, ys = zs.map f ∧ All2 G xs zs := by
  induction hs with
  | nil => exact ⟨[], rfl, .nil⟩
  | cons a _ ih =>
    obtain ⟨zs, e, g⟩ := ih
    obtain ⟨z, e1, g1⟩ := h _ _ a
    exact ⟨z :: zs, by rw [e, e1]; rfl, .cons g1 g⟩
theorem All2.right {α β : Type} {F : α → β → Prop} {P : β → Prop} (h : ∀ x y, F x y → P y) {xs : List α} {ys : List β} (hs : All2 F xs ys) : ∀ y ∈ ys, P y := by
  induction hs with
  | nil => intro y hy; cases hy
  | cons a _ ih =>
    intro y hy
    cases hy with
    | head => exact h _ _ a
    | tail _ hy => exact ih y hy
/-- a comprehension whose items draw -/
theorem tri_mapO {f : D → M (Option D)} {I : Nat → Sto → Prop} {F : D → D → Prop} {xs : List D} {n : Nat} (h : ∀ x ∈ xs, ∀ n, Tri (I n) (f x) fun o s => (∃ y, o = some y ∧ F x y) ∧ I (n + 1) s) :
    Tri (I n) (mapO f xs) fun ys s => All2 F xs ys ∧ I (n + xs.length) s := by
  induction xs generalizing n with
  | nil => exact Tri.pure fun s hs => ⟨.nil, hs⟩
  | cons x xs ih =>
    unfold mapO
    refine Tri.bindF (h x (List.mem_cons_self ..) n) fun o ho => ?_
    obtain ⟨y, rfl, hy⟩ := ho
    refine Tri.bindF (ih fun z hz => h z (List.mem_cons_of_mem _ hz)) fun ys hys => ?_
    refine Tri.pure fun s hs => ⟨.cons hy hys, ?_⟩
    rw [List.length_cons, show n + (xs.length + 1) = n + 1 + xs.length by omega]
    exact hs
end Bc

set_option linter.all false
set_option autoImplicit false
set_option maxRecDepth 100000
set_option maxHeartbeats 1000000
namespace Bc
open PySem PySem.Spec L2
theorem forL_find0_then {γ J : Type} {f : D → Env → M (Fl × Env)} (mk : J → Env) (p : D → Bool) (d : D) {xs : List D} {j : J} {g : Fl × Env → M γ} {r : M γ}
    (hf : ∀ x ∈ xs, ∀ j, ∃ j', f x (mk j) = M.pure (if p x then .rt d else .nx, mk j')) (hr : ∀ j', g (if xs.any p then .rt d else .nx, mk j') = r) : (forL f xs (mk j)).bind g = r := by
  have h := forL_find_then (f := f) (e := fun x : D => x) mk p d (xs := xs) (j := j) hf hr
  rw [List.map_id''] at h
  · exact h
  · intro x; rfl
/-! ### loops that draw -/
theorem tri_forL {f : D → Env → M (Fl × Env)} {J : Nat → Env → Prop} {I : Nat → Sto → Prop} {N : Nat} {xs : List D}
    (h : ∀ x ∈ xs, ∀ n env, n < N → J n env → ∀ Q : Fl × Env → Sto → Prop, (∀ env' s, J (n + 1) env' → I (n + 1) s → Q (.nx, env') s) → Tri (I n) (f x env) Q) :
    ∀ {n : Nat} {env : Env}, n + xs.length ≤ N → J n env → Tri (I n) (forL f xs env) fun r s => (∃ env', r = (.nx, env') ∧ J (n + xs.length) env') ∧ I (n + xs.length) s := by
  induction xs with
  | nil => intro n env hN hJ; exact Tri.pure fun s hs => ⟨⟨env, rfl, hJ⟩, hs⟩
  | cons x xs ih =>
    intro n env hN hJ
    rw [List.length_cons] at hN
    unfold forL
    refine Tri.bindF (h x (List.mem_cons_self ..) n env (by omega) hJ (fun r s => (∃ env', r = (.nx, env') ∧ J (n + 1) env') ∧ I (n + 1) s) fun env' s h1 h2 => ⟨⟨env', rfl, h1⟩, h2⟩) fun r hr => ?_
    obtain ⟨env', rfl, hJ'⟩ := hr
    have := ih (fun z hz => h z (List.mem_cons_of_mem _ hz)) (n := n + 1) (by omega) hJ'
    rw [List.length_cons, show n + (xs.length + 1) = n + 1 + xs.length by omega]
    exact this
/-- a comprehension that draws -/
theorem tri_mapP {f : D → M (Option D)} {I : Nat → Sto → Prop} {P : D → Prop} {N : Nat} {xs : List D}
    (h : ∀ x ∈ xs, ∀ n, n < N → ∀ Q : Option D → Sto → Prop, (∀ y s, P y → I (n + 1) s → Q (some y) s) → Tri (I n) (f x) Q) :
    ∀ {n : Nat}, n + xs.length ≤ N → Tri (I n) (mapO f xs) fun ys s => (ys.length = xs.length ∧ ∀ y ∈ ys, P y) ∧ I (n + xs.length) s := by
  induction xs with
  | nil => intro n hN; exact Tri.pure fun s hs => ⟨⟨rfl, by intro y hy; cases hy⟩, hs⟩
  | cons x xs ih =>
    intro n hN
    rw [List.length_cons] at hN
    unfold mapO
    refine Tri.bindF (h x (List.mem_cons_self ..) n (by omega) (fun o s => (∃ y, o = some y ∧ P y) ∧ I (n + 1) s) fun y s h1 h2 => ⟨⟨y, rfl, h1⟩, h2⟩) fun r hr => ?_
    obtain ⟨y, rfl, hy⟩ := hr
    refine Tri.bindF (ih (fun z hz => h z (List.mem_cons_of_mem _ hz)) (n := n + 1) (by omega)) fun ys hys => ?_
    refine Tri.pure fun s hs => ⟨⟨by rw [List.length_cons, List.length_cons, hys.1], ?_⟩, ?_⟩
    · intro z hz
      cases hz with
      | head => exact hy
      | tail _ hz => exact hys.2 z hz
    · rw [List.length_cons, show n + (xs.length + 1) = n + 1 + xs.length by omega]
      exact hs
theorem lift_map {α : Type} {g : α → D} {G : α → Prop} : ∀ {ys : List D}, (∀ y ∈ ys, ∃ z, y = g z ∧ G z) → ∃ zs : List α, ys = zs.map g ∧ zs.length = ys.length ∧ ∀ z ∈ zs, G z
  | [], _ => ⟨[], rfl, rfl, by intro z hz; cases hz⟩
  | y :: ys, h => by
    obtain ⟨z, e, hz⟩ := h y (List.mem_cons_self ..)
    obtain ⟨zs, e2, l, hs⟩ := lift_map (ys := ys) fun y hy => h y (List.mem_cons_of_mem _ hy)
    refine ⟨z :: zs, by rw [e, e2]; rfl, by rw [List.length_cons, List.length_cons, l], ?_⟩
    intro u hu
    cases hu with
    | head => exact hz
    | tail _ hu => exact hs u hu
/-- a while by a measure -/
theorem whileL_inv {α : Type} {t : Env → M Bool} {f : Env → M (Fl × Env)} (mk : α → Env) (cond : α → Bool) (I : α → Prop) (μ : α → Nat)
    (ht : ∀ a, I a → t (mk a) = M.pure (cond a)) (hf : ∀ a, I a → cond a = true → ∃ a', f (mk a) = M.pure (.nx, mk a') ∧ I a' ∧ μ a' < μ a) :
    ∀ {w : Nat} {a : α}, I a → μ a < w → ∃ a', whileL t f w (mk a) = M.pure (.nx, mk a') ∧ I a' ∧ cond a' = false := by
  intro w
  induction w with
  | zero => intro a _ h; omega
  | succ w ih =>
    intro a hI hw
    unfold whileL
    rw [ht a hI, pure_bind']
    cases hc : cond a with
    | false => exact ⟨a, rfl, hI, hc⟩
    | true =>
      obtain ⟨a1, e1, i1, m1⟩ := hf a hI hc
      obtain ⟨a2, e2, i2, c2⟩ := ih i1 (by omega)
      refine ⟨a2, ?_, i2, c2⟩
      rw [if_pos rfl, e1, pure_bind']
      exact e2
theorem whileL_then {α γ : Type} {t : Env → M Bool} {f : Env → M (Fl × Env)} (mk : α → Env) (cond : α → Bool) (I : α → Prop) (μ : α → Nat) {w : Nat} {a : α} {g : Fl × Env → M γ} {r : M γ}
    (hI : I a) (hw : μ a < w) (ht : ∀ a, I a → t (mk a) = M.pure (cond a)) (hf : ∀ a, I a → cond a = true → ∃ a', f (mk a) = M.pure (.nx, mk a') ∧ I a' ∧ μ a' < μ a)
    (hr : ∀ a', I a' → cond a' = false → g (.nx, mk a') = r) : (whileL t f w (mk a)).bind g = r := by
  obtain ⟨a', e, i, c⟩ := whileL_inv mk cond I μ ht hf hI hw
  rw [e, pure_bind']
  exact hr a' i c
/-! ### a purse -/
theorem tri_loc {γ : Type} {f : D → M γ} {Q : γ → Sto → Prop} {s0 : Sto} {p : Nat} {xs : List D} {i : Int} {d : D} (h : s0[p]? = some xs) (h' : L2.atI xs i = some d) (hf : Tri (· = s0) (f d) Q) : Tri (· = s0) ((subD (.loc p) (.int i)).bind f) Q := by
  intro s hs
  subst hs
  obtain ⟨a, s', e, q⟩ := hf s rfl
  refine ⟨a, s', ?_, q⟩
  have e1 : subD (.loc p) (.int i) s = .ok (d, s) := by
    show locAt p i s = _
    unfold locAt
    rw [h, Option.bind_some, h']
    rfl
  unfold M.bind
  rw [e1]
  exact e
theorem tri_set {γ : Type} {f : Unit → M γ} {Q : γ → Sto → Prop} {s0 : Sto} {p : Nat} {xs : List D} {i : Int} {j : Nat} {v : D} (h : s0[p]? = some xs) (h' : L2.ixN xs.length i = some j) (hv : nob v = true) (hf : Tri (· = s0.set p (xs.set j v)) (f ()) Q) : Tri (· = s0) ((setSub (.loc p) (.int i) v).bind f) Q := by
  intro s hs
  subst hs
  obtain ⟨a, s', e, q⟩ := hf _ rfl
  refine ⟨a, s', ?_, q⟩
  have : setSub (.loc p) (.int i) v s = .ok ((), s.set p (xs.set j v)) := by
    unfold setSub
    simp only [h, h', hv]
    rfl
  unfold M.bind
  rw [this]
  exact e
theorem inD_lst {x : D} {b : Bool} {xs : List D} {d : PyData} {ds : List PyData} (h1 : toPy x = some d) (h2 : toPys xs = some ds) (h3 : SeqAt.shaped d = true) (h4 : SeqAt.shaped (.list ds) = true) : inD x (.lst b xs) = some (ds.any fun z => PyData.eqv z d) := by
  simp only [inD, h1, h2, h3, h4]
  rfl
def purse (a b c : Int) : List D := [.int a, .int b, .int c]
/-- a purse of which at most n draws were made -/
def Pur (p n : Nat) (s : Sto) : Prop := ∃ a b c : Int, s[p]? = some (purse a b c) ∧ 0 ≤ a ∧ a < 2147483563 ∧ 0 ≤ b ∧ 0 ≤ c ∧ c ≤ n
theorem Pur.mono {p n m : Nat} {s : Sto} (h : Pur p n s) (l : n ≤ m) : Pur p m s := by
  obtain ⟨a, b, c, e, h1, h2, h3, h4, h5⟩ := h
  exact ⟨a, b, c, e, h1, h2, h3, h4, by omega⟩
theorem log2_small {n : Nat} (h : n < 2 ^ 64) : n.log2 < 64 := by
  by_cases h0 : n = 0
  · subst h0; decide
  · exact (Nat.log2_lt h0).2 h
theorem mulOk_small {i j : Int} (h : i.natAbs < 2 ^ 64) (h' : j.natAbs < 2 ^ 64) : mulOk i j = true := by
  unfold mulOk
  have := log2_small h
  have := log2_small h'
  exact decide_eq_true (by omega)
theorem pyDiv_small {i j : Int} (h : 0 < j) (h' : j < 2 ^ 200) : pyDiv i j = true := by
  unfold pyDiv
  rw [PyProof.noPylong_of_log2]
  · rw [decide_eq_true h]; rfl
  · have : j.natAbs < 2 ^ 200 := by omega
    have h0 : j.natAbs ≠ 0 := by omega
    have := (Nat.log2_lt h0).2 this
    omega
end Bc

set_option linter.all false
set_option autoImplicit false
set_option maxRecDepth 100000
set_option maxHeartbeats 1000000
namespace Bc
open PySem PySem.Spec L2
/-! ### data by an injection -/
structure Enc {α : Type} [DecidableEq α] (e : α → D) (n : Nat) where
  py : α → PyData
  hpy : ∀ a, toPy (e a) = some (py a)
  lay : ∀ a, (py a).canLay0 = true
  dep : ∀ a, (py a).depth ≤ n
  eqv : ∀ a b, PyData.eqv (py a) (py b) = decide (a = b)
def Enc.int : Enc (fun i : Int => D.int i) 0 := ⟨fun i => .int i, fun _ => rfl, fun _ => rfl, fun _ => Nat.le_refl _, fun a b => int_beq a b⟩
def Enc.nat : Enc (fun i : Nat => D.int (i : Int)) 0 := ⟨fun i => .int i, fun _ => rfl, fun _ => rfl, fun _ => Nat.le_refl _, fun a b => by
  show ((a : Int) == (b : Int)) = _
  rw [int_beq, decide_eq_decide]
  omega⟩
def Enc.bool : Enc (fun b : Bool => D.bl b) 0 := ⟨fun i => .bool i, fun _ => rfl, fun _ => rfl, fun _ => Nat.le_refl _, fun a b => by
  show (a == b) = _
  cases a <;> cases b <;> rfl⟩
section
variable {α β : Type} [DecidableEq α] [DecidableEq β] {e : α → D} {g : β → D} {n : Nat}
theorem Enc.pys (h : Enc e n) : ∀ xs : List α, toPys (xs.map e) = some (xs.map h.py)
  | [] => rfl
  | x :: r => by
    rw [List.map_cons]
    unfold toPys
    rw [h.hpy x, h.pys r]
    rfl
theorem Enc.lays (h : Enc e n) : ∀ xs : List α, PyData.canLayAll0 (xs.map h.py) = true
  | [] => rfl
  | x :: r => by
    rw [List.map_cons]
    unfold PyData.canLayAll0
    rw [h.lay x, h.lays r]
    rfl
theorem Enc.deps (h : Enc e n) : ∀ xs : List α, PyData.depthAll (xs.map h.py) ≤ n
  | [] => Nat.zero_le _
  | x :: r => by
    rw [List.map_cons]
    unfold PyData.depthAll
    have := h.dep x
    have := h.deps r
    omega
theorem Enc.eqvs (h : Enc e n) : ∀ xs ys : List α, PyData.eqvAll (xs.map h.py) (ys.map h.py) = decide (xs = ys)
  | [], [] => rfl
  | [], y :: ys => by
    rw [List.map_nil, List.map_cons]
    unfold PyData.eqvAll
    simp
  | x :: xs, [] => by
    rw [List.map_nil, List.map_cons]
    unfold PyData.eqvAll
    simp
  | x :: xs, y :: ys => by
    rw [List.map_cons, List.map_cons]
    unfold PyData.eqvAll
    rw [h.eqv, h.eqvs xs ys, ← Bool.decide_and, decide_eq_decide]
    simp
def Enc.tup (h : Enc e n) : Enc (fun xs : List α => D.tup (xs.map e)) (n + 1) := ⟨fun xs => .tuple (xs.map h.py), fun xs => by
    unfold toPy; rw [h.pys]; rfl, fun xs => by unfold PyData.canLay0; exact h.lays xs, fun xs => by unfold PyData.depth; have := h.deps xs; omega, fun xs ys => by unfold PyData.eqv; exact h.eqvs xs ys⟩
def Enc.lst (h : Enc e n) (b : Bool) : Enc (fun xs : List α => D.lst b (xs.map e)) (n + 1) := ⟨fun xs => .list (xs.map h.py), fun xs => by
    unfold toPy; rw [h.pys]; rfl, fun xs => by unfold PyData.canLay0; exact h.lays xs, fun xs => by unfold PyData.depth; have := h.deps xs; omega, fun xs ys => by unfold PyData.eqv; exact h.eqvs xs ys⟩
def Enc.pair (h : Enc e n) (h' : Enc g n) : Enc (fun p : α × β => D.tup [e p.1, g p.2]) (n + 1) := ⟨fun p => .tuple [h.py p.1, h'.py p.2],
  fun p => by
    have h1 := h.hpy p.1
    have h2 := h'.hpy p.2
    simp [toPy, toPys, h1, h2],
  fun p => by
    have h1 := h.lay p.1
    have h2 := h'.lay p.2
    simp [PyData.canLay0, PyData.canLayAll0, h1, h2],
  fun p => by
    have h1 := h.dep p.1
    have h2 := h'.dep p.2
    simp [PyData.depth, PyData.depthAll]
    omega,
  fun p q => by
    have h1 := h.eqv p.1 q.1
    have h2 := h'.eqv p.2 q.2
    simp only [PyData.eqv, PyData.eqvAll, h1, h2, Bool.and_true]
    rw [← Bool.decide_and, decide_eq_decide]
    exact ⟨fun h => Prod.ext h.1 h.2, fun h => by rw [h]; exact ⟨rfl, rfl⟩⟩⟩
theorem Enc.shaped (h : Enc e n) (hn : n ≤ 64) (a : α) : SeqAt.shaped (h.py a) = true := by
  unfold SeqAt.shaped
  rw [h.lay a, decide_eq_true (show (h.py a).depth ≤ 64 from Nat.le_trans (h.dep a) hn)]
  rfl
theorem Enc.eqD (h : Enc e n) (hn : n ≤ 64) (a b : α) : eqD (e a) (e b) = some (decide (a = b)) := by
  unfold Bc.eqD
  simp only [h.hpy, h.shaped hn, h.eqv]
  rfl
theorem Enc.anys (h : Enc e n) (a : α) : ∀ xs : List α, (xs.map h.py).any (fun z => PyData.eqv z (h.py a)) = decide (a ∈ xs)
  | [] => rfl
  | x :: r => by
    rw [List.map_cons, List.any_cons, h.anys a r, h.eqv, ← Bool.decide_or, decide_eq_decide, List.mem_cons]
    exact ⟨fun h => h.elim (fun h => .inl h.symm) .inr, fun h => h.elim (fun h => .inl h.symm) .inr⟩
theorem Enc.inL0 (h : Enc e n) (hn : n < 64) {b : Bool} (a : α) (xs : List α) : inD (e a) (.lst b (xs.map e)) = some (decide (a ∈ xs)) := by
  rw [inD_lst (h.hpy a) (h.pys xs) (h.shaped (by omega) a) ((h.lst true).shaped (by omega) xs), h.anys]
theorem Enc.inT0 (h : Enc e n) (hn : n < 64) (hf : ∀ a, flatD (e a) = false) (a : α) (xs : List α) : inD (e a) (.tup (xs.map e)) = some (decide (a ∈ xs)) := by
  have h1 := h.shaped (by omega) a
  have h2 : SeqAt.shaped (.tuple (xs.map h.py)) = true := h.tup.shaped (by omega) xs
  simp only [inD, hf, h.hpy, h.pys, h1, h2, h.anys]
  rfl
theorem Enc.inL (h : Enc e n) (hn : n < 64) {b : Bool} (a : α) (xs : List α) [d : Decidable (a ∈ xs)] : inD (e a) (.lst b (xs.map e)) = some (decide (a ∈ xs)) := by
  rw [h.inL0 hn]
  congr
theorem Enc.inT (h : Enc e n) (hn : n < 64) (hf : ∀ a, flatD (e a) = false) (a : α) (xs : List α) [d : Decidable (a ∈ xs)] : inD (e a) (.tup (xs.map e)) = some (decide (a ∈ xs)) := by
  rw [h.inT0 hn hf]
  congr
theorem Enc.idxs (h : Enc e n) (a : α) : ∀ xs : List α, a ∈ xs → (xs.map h.py).findIdx? (fun z => PyData.eqv z (h.py a)) = some (xs.idxOf a)
  | [], h => by cases h
  | y :: r, hm => by
    rw [List.map_cons, List.findIdx?_cons, List.idxOf_cons, h.eqv]
    by_cases e : y = a
    · subst e; simp
    · have e' : (y == a) = false := by simpa using e
      have h' : a ∈ r := by
        cases hm with
        | head => exact absurd rfl e
        | tail _ h => exact h
      rw [e', h.idxs a r h']
      simp [e]
theorem Enc.index (h : Enc e n) (hn : n < 64) {b : Bool} {a : α} {xs : List α} (hm : a ∈ xs) : bmD .index (.lst b (xs.map e)) [e a] = M.pure (.int (xs.idxOf a : Nat)) := by
  show (ofOpt (toPy (e a))).bind (fun d => (ofOpt (toPys (xs.map e))).bind fun es => (need (SeqAt.shaped d && SeqAt.shaped (.list es))).bind fun _ => (ofOpt (es.findIdx? fun z => PyData.eqv z d)).bind fun j => (pure (D.int (j : Nat)) : M D)) = _
  rw [h.hpy, ofOpt_some', pure_bind', h.pys, ofOpt_some', pure_bind', h.shaped (by omega) a, show SeqAt.shaped (.list (xs.map h.py)) = true from (h.lst true).shaped (by omega) xs, h.idxs a xs hm]
  simp
theorem Enc.eq (h : Enc e n) (hn : n ≤ 64) (a b : α) : cmpD .Eq (e a) (e b) = M.pure (.bl (decide (a = b))) := cmpD_eq (h.eqD hn a b)
theorem Enc.ne (h : Enc e n) (hn : n ≤ 64) (a b : α) : cmpD .NotEq (e a) (e b) = M.pure (.bl (!decide (a = b))) := cmpD_ne (h.eqD hn a b)
theorem Enc.isIn (h : Enc e n) (hn : n < 64) {b : Bool} (a : α) (xs : List α) [d : Decidable (a ∈ xs)] : cmpD .In (e a) (.lst b (xs.map e)) = M.pure (.bl (decide (a ∈ xs))) := cmpD_in (h.inL hn a xs)
theorem Enc.notIn (h : Enc e n) (hn : n < 64) {b : Bool} (a : α) (xs : List α) [d : Decidable (a ∈ xs)] : cmpD .NotIn (e a) (.lst b (xs.map e)) = M.pure (.bl (!decide (a ∈ xs))) := cmpD_notin (h.inL hn a xs)
end
/-! ### runs without a store -/
def Ret {α : Type} (m : M α) (S : α → Prop) : Prop := ∃ r, m = M.pure r ∧ S r
section
variable {α β : Type} {S S' : α → Prop} {T : β → Prop}
theorem Ret.pure {a : α} (h : S a) : Ret (M.pure a) S := ⟨a, rfl, h⟩
theorem Ret.bind {m : M α} {f : α → M β} (h : Ret m S) (h' : ∀ a, S a → Ret (f a) T) : Ret (m.bind f) T := by
  obtain ⟨a, e, s⟩ := h
  rw [e, pure_bind']
  exact h' a s
theorem Ret.weaken {m : M α} (h : Ret m S) (h' : ∀ a, S a → S' a) : Ret m S' := by
  obtain ⟨a, e, s⟩ := h
  exact ⟨a, e, h' a s⟩
theorem Ret.noX {m : M α} (h : Ret m S) : Ret (noX m) S := by
  obtain ⟨a, e, s⟩ := h
  exact ⟨a, by rw [e, noX_pure], s⟩
theorem Ret.tri {m : M α} {P : Sto → Prop} (h : Ret m S) : Tri P m fun a s => S a ∧ P s := by
  obtain ⟨a, e, s⟩ := h
  rw [e]
  exact Tri.pure fun st hs => ⟨s, hs⟩
end
theorem forL_ret {α β J γ : Type} {f : D → Env → M (Fl × Env)} {e : β → D} (mk : α → J → Env) (step : α → β → α) (I : α → Prop) {xs : List β} {a : α} {j : J} {g : Fl × Env → M γ} {S : γ → Prop} (hI : I a)
    (hf : ∀ x ∈ xs, ∀ a j, I a → I (step a x) ∧ Ret (f (e x) (mk a j)) fun r => ∃ j', r = (.nx, mk (step a x) j')) (hr : ∀ j', I (xs.foldl step a) → Ret (g (.nx, mk (xs.foldl step a) j')) S) : Ret ((forL f (xs.map e) (mk a j)).bind g) S := by
  obtain ⟨j', h, i⟩ := forL_fold mk step I (xs := xs) (a := a) (j := j) hI fun x hx a j ha => by
    obtain ⟨h1, r, h2, j', rfl⟩ := hf x hx a j ha
    exact ⟨h1, j', h2⟩
  rw [h, pure_bind']
  exact hr j' i
theorem forL_find_ret {β γ J : Type} {f : D → Env → M (Fl × Env)} {e : β → D} (mk : J → Env) (p : β → Bool) (d : D) {xs : List β} {j : J} {g : Fl × Env → M γ} {S : γ → Prop}
    (hf : ∀ x ∈ xs, ∀ j, ∀ Q : Fl × Env → Prop, (∀ j', Q (if p x then .rt d else .nx, mk j')) → Ret (f (e x) (mk j)) Q) (hr : ∀ j', Ret (g (if xs.any p then .rt d else .nx, mk j')) S) : Ret ((forL f (xs.map e) (mk j)).bind g) S := by
  obtain ⟨j', h⟩ := forL_find mk p d (xs := xs) (j := j) fun x hx j => by
    obtain ⟨r, h2, j', rfl⟩ := hf x hx j (fun r => ∃ j', r = (if p x then .rt d else .nx, mk j')) fun j' => ⟨j', rfl⟩
    exact ⟨j', h2⟩
  rw [h, pure_bind']
  exact hr j'
theorem Ret.eq {α : Type} {m : M α} {a : α} (h : Ret m fun r => r = a) : m = M.pure a := by
  obtain ⟨r, e, rfl⟩ := h
  exact e
theorem whileL_ret {α γ : Type} {t : Env → M Bool} {f : Env → M (Fl × Env)} (mk : α → Env) (cond : α → Bool) (I : α → Prop) (μ : α → Nat) {w : Nat} {a : α} {g : Fl × Env → M γ} {S : γ → Prop}
    (hI : I a) (hw : μ a < w) (ht : ∀ a, I a → t (mk a) = M.pure (cond a)) (hf : ∀ a, I a → cond a = true → Ret (f (mk a)) fun r => ∃ a', r = (.nx, mk a') ∧ I a' ∧ μ a' < μ a)
    (hr : ∀ a', I a' → cond a' = false → Ret (g (.nx, mk a')) S) : Ret ((whileL t f w (mk a)).bind g) S := by
  obtain ⟨a', e, i, c⟩ := whileL_inv mk cond I μ ht (fun a i c => by
    obtain ⟨r, h1, a', rfl, h2⟩ := hf a i c
    exact ⟨a', h1, h2⟩) hI hw
  rw [e, pure_bind']
  exact hr a' i c
/-! ### dicts with tuple keys -/
@[simp] theorem evE_dcT {c : Cl} {env : Env} {t : T} {k : Itb} {it cs : Es} {e f : E} {own : List Nat} : evE c (.dcT t k it cs e f own) env = (evEs c it env).bind fun ds => (itD k ds).bind fun items =>
      (noX (foldD (fun d => (asgT c t d (Bc.wipe env own)).bind fun env1 => (evCs c cs env1).bind fun b => if b then (evE c e env1).bind fun y => (evE c f env1).bind fun z => (ofOpt (keyT y)).bind fun k => M.pure (some (k, z)) else M.pure none) items [])).bind fun kvs =>
      (need (lenOk kvs.length)).bind fun _ => M.pure (.dT true kvs) := by rw [evE] <;> rfl
theorem dVal_some {κ : Type} [DecidableEq κ] (kvs : List (κ × D)) (k : κ) : (dVal kvs k).isSome = kvs.any fun kv => decide (kv.1 = k) := by
  unfold dVal
  rw [Option.isSome_map, Bool.eq_iff_iff, List.find?_isSome, List.any_eq_true]
theorem dPut_some {κ : Type} [DecidableEq κ] (kvs : List (κ × D)) (k k' : κ) (v : D) : (dVal (dPut kvs k v) k').isSome = ((dVal kvs k').isSome || decide (k = k')) := by
  rw [dVal_some, dVal_some]
  unfold dPut
  split
  · rename_i h
    rw [List.any_map]
    have : ((fun kv : κ × D => decide (kv.1 = k')) ∘ fun kv => if kv.1 = k then (kv.1, v) else kv) = fun kv => decide (kv.1 = k') := by
      funext kv
      show decide ((if kv.1 = k then (kv.1, v) else kv).1 = k') = _
      split <;> rfl
    rw [this]
    by_cases e : k = k'
    · subst e; rw [h]; rfl
    · simp [e]
  · rw [List.any_append]
    simp
theorem dPut_len {κ : Type} [DecidableEq κ] (kvs : List (κ × D)) (k : κ) (v : D) : (dPut kvs k v).length ≤ kvs.length + 1 := by
  unfold dPut
  split
  · rw [List.length_map]; omega
  · rw [List.length_append]; exact Nat.le_refl _
theorem foldD_keys {α : Type} {e : α → D} {key : α → List L2.Key} {f : D → M (Option (List L2.Key × D))} {v : D} : ∀ {xs : List α} {acc : List (List L2.Key × D)}, (∀ x ∈ xs, f (e x) = M.pure (some (key x, v))) → acc.length + xs.length ≤ 16777216 →
    ∃ kvs, foldD f (xs.map e) acc = M.pure kvs ∧ kvs.length ≤ acc.length + xs.length ∧ ∀ k, (dVal kvs k).isSome = ((dVal acc k).isSome || xs.any fun x => decide (key x = k))
  | [], acc, _, _ => ⟨acc, rfl, Nat.le_refl _, fun k => by simp⟩
  | x :: xs, acc, h, hl => by
    rw [List.length_cons] at hl
    have hp := dPut_len acc (key x) v
    obtain ⟨kvs, h1, h2, h3⟩ := foldD_keys (acc := dPut acc (key x) v) (fun y hy => h y (List.mem_cons_of_mem _ hy)) (by omega)
    refine ⟨kvs, ?_, by rw [List.length_cons]; omega, fun k => ?_⟩
    · rw [List.map_cons]
      unfold foldD
      rw [h x (List.mem_cons_self ..), pure_bind']
      show (need _).bind _ = _
      rw [need_of (decide_eq_true (show acc.length < LINE from (show acc.length < 16777216 by omega))), pure_bind']
      exact h1
    · rw [h3, dPut_some, List.any_cons, Bool.or_assoc]
/-- eqD of values that are encoded otherwise -/
theorem eqD_of {x y : D} {d e : PyData} (h1 : toPy x = some d) (h2 : toPy y = some e) (h3 : SeqAt.shaped d = true) (h4 : SeqAt.shaped e = true) : eqD x y = some (PyData.eqv d e) := by
  unfold eqD
  simp only [h1, h2, h3, h4]
  rfl
end Bc

set_option linter.all false
set_option autoImplicit false
namespace Bc
theorem pigeon : ∀ (n : Nat) (f : Nat → Nat), (∀ k, k ≤ n → f k < n) → ∃ a b, a < b ∧ b ≤ n ∧ f a = f b
  | 0, f, h => absurd (h 0 (Nat.le_refl _)) (Nat.not_lt_zero _)
  | n + 1, f, h => by
    by_cases e : ∃ a, a < n + 1 ∧ f a = f (n + 1)
    · obtain ⟨a, h1, h2⟩ := e
      exact ⟨a, n + 1, h1, Nat.le_refl _, h2⟩
    · have e' : ∀ a, a < n + 1 → f a ≠ f (n + 1) := fun a h1 h2 => e ⟨a, h1, h2⟩
      -- the value of the last one is put aside: n takes its place
      obtain ⟨a, b, h1, h2, h3⟩ := pigeon n (fun k => if f k = n then f (n + 1) else f k) (fun k hk => by
        have h1 := h k (by omega)
        have h2 := h (n + 1) (Nat.le_refl _)
        have h3 := e' k (by omega)
        show (if f k = n then f (n + 1) else f k) < n
        by_cases h4 : f k = n
        · rw [if_pos h4]; omega
        · rw [if_neg h4]; omega)
      refine ⟨a, b, h1, by omega, ?_⟩
      have ha := e' a (by omega)
      have hb := e' b (by omega)
      have h3 : (if f a = n then f (n + 1) else f a) = (if f b = n then f (n + 1) else f b) := h3
      by_cases h4 : f a = n
      · rw [if_pos h4] at h3
        by_cases h5 : f b = n
        · omega
        · rw [if_neg h5] at h3; exact absurd h3.symm hb
      · rw [if_neg h4] at h3
        by_cases h5 : f b = n
        · rw [if_pos h5] at h3; exact absurd h3 ha
        · rw [if_neg h5] at h3; exact h3
theorem nodup_le {xs : List Nat} {n : Nat} (h : xs.Nodup) (h' : ∀ x ∈ xs, x < n) : xs.length ≤ n := by
  by_cases e : xs.length ≤ n
  · exact e
  · exfalso
    obtain ⟨a, b, h1, h2, h3⟩ := pigeon n (fun k => xs.getD k 0) (fun k hk => by
      show xs.getD k 0 < n
      have hk' : k < xs.length := by omega
      rw [List.getD_eq_getElem?_getD, List.getElem?_eq_getElem hk']
      exact h' _ (List.getElem_mem hk'))
    have ha : a < xs.length := by omega
    have hb : b < xs.length := by omega
    have h3 : xs.getD a 0 = xs.getD b 0 := h3
    rw [List.getD_eq_getElem?_getD, List.getD_eq_getElem?_getD, List.getElem?_eq_getElem ha, List.getElem?_eq_getElem hb] at h3
    exact (List.pairwise_iff_getElem.1 h a b ha hb h1) h3
def it (f : Nat → Nat) : Nat → Nat → Nat
  | 0, x => x
  | k + 1, x => f (it f k x)
theorem it_add (f : Nat → Nat) (a b x : Nat) : it f (a + b) x = it f a (it f b x) := by
  induction a with
  | zero => rw [Nat.zero_add]; rfl
  | succ a ih => rw [Nat.succ_add]; show f _ = f _; rw [ih]
theorem it_f (f : Nat → Nat) (k x : Nat) : it f k (f x) = it f (k + 1) x := (it_add f k 1 x).symm
theorem it_lt {f : Nat → Nat} {n : Nat} (h : ∀ x, x < n → f x < n) {x : Nat} (hx : x < n) : ∀ k, it f k x < n
  | 0 => hx
  | k + 1 => h _ (it_lt h hx k)
def walkMin (f : Nat → Nat) : Nat → Nat → Nat → Nat
  | 0, _, m => m
  | k + 1, x, m => walkMin f k (f x) (if f x < m then f x else m)
theorem walkMin_le (f : Nat → Nat) : ∀ (k x m : Nat), walkMin f k x m ≤ m ∧ ∀ j, j < k → walkMin f k x m ≤ it f (j + 1) x
  | 0, x, m => ⟨Nat.le_refl _, fun j h => absurd h (Nat.not_lt_zero _)⟩
  | k + 1, x, m => by
    obtain ⟨h1, h2⟩ := walkMin_le f k (f x) (if f x < m then f x else m)
    have h3 : (if f x < m then f x else m) ≤ m ∧ (if f x < m then f x else m) ≤ f x := by
      by_cases h : f x < m
      · rw [if_pos h]; omega
      · rw [if_neg h]; omega
    refine ⟨Nat.le_trans h1 h3.1, fun j hj => ?_⟩
    cases j with
    | zero => exact Nat.le_trans h1 h3.2
    | succ j =>
      have := h2 j (by omega)
      rw [it_f] at this
      exact this
theorem walkMin_is (f : Nat → Nat) : ∀ (k x m : Nat), walkMin f k x m = m ∨ ∃ j, j < k ∧ walkMin f k x m = it f (j + 1) x
  | 0, x, m => .inl rfl
  | k + 1, x, m => by
    rcases walkMin_is f k (f x) (if f x < m then f x else m) with h | ⟨j, h1, h2⟩
    · by_cases h' : f x < m
      · right
        refine ⟨0, by omega, ?_⟩
        show walkMin f k (f x) _ = f x
        rw [h, if_pos h']
      · left
        show walkMin f k (f x) _ = m
        rw [h, if_neg h']
    · right
      refine ⟨j + 1, by omega, ?_⟩
      show walkMin f k (f x) _ = _
      rw [h2, it_f]
/-- the least state of the ring -/
def ringEnd (f : Nat → Nat) (n x : Nat) : Nat := walkMin f n (it f n x) (it f n x)
theorem ring_char (f : Nat → Nat) (n x : Nat) : (∃ j, n ≤ j ∧ j ≤ 2 * n ∧ ringEnd f n x = it f j x) ∧ ∀ j, n ≤ j → j ≤ 2 * n → ringEnd f n x ≤ it f j x := by
  constructor
  · rcases walkMin_is f n (it f n x) (it f n x) with h | ⟨j, h1, h2⟩
    · exact ⟨n, Nat.le_refl _, by omega, h⟩
    · refine ⟨j + 1 + n, by omega, by omega, ?_⟩
      rw [it_add]
      exact h2
  · intro j h1 h2
    obtain ⟨h3, h4⟩ := walkMin_le f n (it f n x) (it f n x)
    by_cases h : j = n
    · subst h; exact h3
    · have := h4 (j - n - 1) (by omega)
      rw [← it_add, show j - n - 1 + 1 + n = j by omega] at this
      exact this
theorem ring_still {f : Nat → Nat} {n : Nat} (h : ∀ x, x < n → f x < n) {x : Nat} (hx : x < n) : ringEnd f n (f x) = ringEnd f n x := by
  obtain ⟨a, b, h1, h2, h3⟩ := pigeon n (fun k => it f k x) (fun k _ => it_lt h hx k)
  have h3 : it f a x = it f b x := h3
  -- from a on, it comes again after b - a
  have hp : ∀ k, a ≤ k → it f (k + (b - a)) x = it f k x := fun k hk => by
    rw [show k + (b - a) = (k - a) + b by omega, it_add, ← h3, ← it_add, show k - a + a = k by omega]
  obtain ⟨⟨i, i1, i2, i3⟩, i4⟩ := ring_char f n (f x)
  obtain ⟨⟨j, j1, j2, j3⟩, j4⟩ := ring_char f n x
  apply Nat.le_antisymm
  · rw [j3]
    by_cases e : j = n
    · have := i4 (j + (b - a) - 1) (by omega) (by omega)
      rw [it_f, show j + (b - a) - 1 + 1 = j + (b - a) by omega, hp j (by omega)] at this
      exact this
    · have := i4 (j - 1) (by omega) (by omega)
      rw [it_f, show j - 1 + 1 = j by omega] at this
      exact this
  · rw [i3, it_f]
    by_cases e : i = 2 * n
    · have := j4 (i + 1 - (b - a)) (by omega) (by omega)
      have e2 := hp (i + 1 - (b - a)) (by omega)
      rw [show i + 1 - (b - a) + (b - a) = i + 1 by omega] at e2
      rw [← e2] at this
      exact this
    · exact j4 (i + 1) (by omega) (by omega)
end Bc

set_option linter.all false
set_option autoImplicit false
set_option maxRecDepth 100000
set_option maxHeartbeats 0
namespace CK
open PySem PySem.Spec L2 Bc
def b_is_whole : Ss := (.cons (.ret (.and (.isi (.var 0) [.int]) (.not (.isi (.var 0) [.bool])))) .nil)
def b_is_word : Ss := (.cons (.ret (.and (.isi (.var 0) [.str]) (.and (.cmp2 .Lt .LtE (.int 0) (.bi .len (.cons (.var 0) .nil)) (.glob (.int 8))) (.bi .all (.cons (.lc (.nm 1) .seq (.cons (.var 0) .nil) .nil (.cmp .In (.var 1) (.glob (.str "abcdefghijklmnopqrstuvwxyz"))) [1]) .nil))))) .nil)
def b_are_names : Ss := (.cons (.ite (.or (.not (.isi (.var 0) [.tuple])) (.or (.cmp .Gt (.bi .len (.cons (.var 0) .nil)) (.glob (.int 3))) (.not (.bi .all (.cons (.lc (.nm 2) .seq (.cons (.var 0) .nil) .nil (.call 1 (.cons (.var 2) .nil)) [2]) .nil))))) (.cons (.ret (.bl false)) .nil) .nil) (.cons (.ret (.bi .all (.cons (.lc (.nm 1) .range2 (.cons (.int 1) (.cons (.bi .len (.cons (.var 0) .nil)) .nil)) .nil (.cmp .Lt (.sub (.var 0) (.bin .Sub (.var 1) (.int 1))) (.sub (.var 0) (.var 1))) [1]) .nil))) .nil))
def b_shared : Ss := (.cons (.asg (.tp (.cons (.nm 2) (.cons (.nm 3) .nil))) (.tup (.cons (.bi .abs (.cons (.var 0) .nil)) (.cons (.bi .abs (.cons (.var 1) .nil)) .nil)))) (.cons (.whil (.cmp .Gt (.var 3) (.int 0)) (.cons (.asg (.tp (.cons (.nm 2) (.cons (.nm 3) .nil))) (.tup (.cons (.var 3) (.cons (.bin .Mod (.var 2) (.var 3)) .nil)))) .nil)) (.cons (.ret (.var 2)) .nil)))
def b_is_fraction : Ss := (.cons (.ite (.or (.not (.isi (.var 0) [.tuple])) (.or (.cmp .NotEq (.bi .len (.cons (.var 0) .nil)) (.int 2)) (.or (.not (.call 0 (.cons (.sub (.var 0) (.int 0)) .nil))) (.not (.call 0 (.cons (.sub (.var 0) (.int 1)) .nil)))))) (.cons (.ret (.bl false)) .nil) .nil) (.cons (.ret (.and (.cmp .Gt (.sub (.var 0) (.int 1)) (.int 0)) (.cmp .Eq (.call 3 (.cons (.sub (.var 0) (.int 0)) (.cons (.sub (.var 0) (.int 1)) .nil))) (.int 1)))) .nil))
def b_is_row : Ss := (.cons (.ret (.and (.isi (.var 0) [.tuple]) (.and (.cmp .Eq (.bi .len (.cons (.var 0) .nil)) (.var 1)) (.bi .all (.cons (.lc (.nm 2) .seq (.cons (.var 0) .nil) .nil (.call 4 (.cons (.var 2) .nil)) [2]) .nil))))) .nil)
def b_is_side : Ss := (.cons (.ret (.and (.isi (.var 0) [.tuple]) (.and (.cmp .Eq (.bi .len (.cons (.var 0) .nil)) (.var 1)) (.bi .all (.cons (.lc (.nm 2) .seq (.cons (.var 0) .nil) .nil (.call 5 (.cons (.var 2) (.cons (.var 1) .nil))) [2]) .nil))))) .nil)
def b_rows_for : Ss := (.cons (.asg (.nm 1) (.lst (.cons (.tup .nil) .nil))) (.cons (.loop (.nm 2) .range1 (.cons (.var 0) .nil) (.cons (.asg (.nm 1) (.lc2 (.nm 3) .seq (.cons (.var 1) .nil) .nil (.nm 4) .seq (.cons (.tup (.cons (.int 0) (.cons (.int 1) .nil))) .nil) .nil (.tup (.star (.var 3) (.cons (.var 4) .nil))) [3, 4] [4])) .nil)) (.cons (.ret (.var 1)) .nil)))
def b_is_plain_rule : Ss := (.cons (.ite (.or (.not (.isi (.var 0) [.tuple])) (.or (.cmp .NotEq (.bi .len (.cons (.var 0) .nil)) (.int 4)) (.not (.call 2 (.cons (.sub (.var 0) (.int 0)) .nil))))) (.cons (.ret (.bl false)) .nil) .nil) (.cons (.asg (.tp (.cons (.nm 1) (.cons (.nm 2) (.cons (.nm 3) (.cons (.nm 4) .nil))))) (.var 0)) (.cons (.ite (.or (.not (.isi (.var 3) [.tuple])) (.or (.cmp .Gt (.bi .len (.cons (.var 3) .nil)) (.glob (.int 100))) (.not (.bi .all (.cons (.lc (.nm 5) .seq (.cons (.var 3) .nil) .nil (.call 0 (.cons (.var 5) .nil)) [5]) .nil))))) (.cons (.ret (.bl false)) .nil) .nil) (.cons (.ite (.or (.not (.isi (.var 2) [.tuple])) (.cmp .NotEq (.bi .len (.cons (.var 2) .nil)) (.bi .len (.cons (.call 7 (.cons (.bi .len (.cons (.var 1) .nil)) .nil)) .nil)))) (.cons (.ret (.bl false)) .nil) .nil) (.cons (.ite (.or (.not (.bi .all (.cons (.lc (.nm 6) .seq (.cons (.var 2) .nil) .nil (.call 6 (.cons (.var 6) (.cons (.bi .len (.cons (.var 3) .nil)) .nil))) [6]) .nil))) (.not (.call 5 (.cons (.var 4) (.cons (.bi .len (.cons (.var 3) .nil)) .nil))))) (.cons (.ret (.bl false)) .nil) .nil) (.cons (.ret (.cmp .Eq (.call 11 (.cons (.sub (.var 2) (.int 0)) (.cons (.call 9 (.cons (.var 3) .nil)) .nil))) (.call 9 (.cons (.var 3) .nil)))) .nil))))))
def b_begun : Ss := (.cons (.ret (.lc (.nm 1) .seq (.cons (.var 0) .nil) .nil (.tup (.cons (.var 1) (.cons (.int 1) .nil))) [1])) .nil)
def b_added : Ss := (.cons (.asg (.tp (.cons (.nm 2) (.cons (.nm 3) .nil))) (.tup (.cons (.int 0) (.cons (.int 1) .nil)))) (.cons (.loop (.tp (.cons (.tp (.cons (.nm 4) (.cons (.nm 5) .nil))) (.cons (.tp (.cons (.nm 6) (.cons (.nm 7) .nil))) .nil))) .zip (.cons (.var 0) (.cons (.var 1) .nil)) (.cons (.ite (.and (.cmp .NotEq (.var 4) (.int 0)) (.cmp .NotEq (.var 6) (.int 0))) (.cons (.asg (.tp (.cons (.nm 2) (.cons (.nm 3) .nil))) (.tup (.cons (.bin .Add (.bin .Mult (.bin .Mult (.var 2) (.var 5)) (.var 7)) (.bin .Mult (.bin .Mult (.var 4) (.var 6)) (.var 3))) (.cons (.bin .Mult (.bin .Mult (.var 3) (.var 5)) (.var 7)) .nil)))) (.cons (.asg (.nm 8) (.call 3 (.cons (.var 2) (.cons (.var 3) .nil)))) (.cons (.asg (.tp (.cons (.nm 2) (.cons (.nm 3) .nil))) (.tup (.cons (.bin .FloorDiv (.var 2) (.var 8)) (.cons (.bin .FloorDiv (.var 3) (.var 8)) .nil)))) .nil))) .nil) .nil)) (.cons (.ret (.tup (.cons (.var 2) (.cons (.var 3) .nil)))) .nil)))
def b_applied : Ss := (.cons (.ret (.lc (.nm 2) .seq (.cons (.var 0) .nil) .nil (.call 10 (.cons (.var 2) (.cons (.var 1) .nil))) [2])) .nil)
def b_place_of : Ss := (.cons (.ret (.sub (.lc (.nm 2) .range1 (.cons (.bi .len (.cons (.var 1) .nil)) .nil) (.cons (.cmp .Eq (.sub (.var 1) (.var 2)) (.var 0)) .nil) (.var 2) [2]) (.int 0))) .nil)
def b_index_of : Ss := (.cons (.asg (.nm 1) (.int 0)) (.cons (.loop (.nm 2) .seq (.cons (.var 0) .nil) (.cons (.asg (.nm 1) (.bin .Add (.bin .Mult (.int 2) (.var 1)) (.var 2))) .nil)) (.cons (.ret (.var 1)) .nil)))
def b_digits_at : Ss := (.cons (.ret (.lc (.nm 2) .seq (.cons (.var 0) .nil) .nil (.bin .BitAnd (.bin .RShift (.var 2) (.var 1)) (.int 1)) [2])) .nil)
def b_length_of : Ss := (.cons (.asg (.nm 1) (.int 0)) (.cons (.loop (.nm 2) .seq (.cons (.var 0) .nil) (.cons (.asg (.nm 1) (.ite (.cmp .Lt (.bm .bitLength (.var 2) .nil) (.var 1)) (.var 1) (.bm .bitLength (.var 2) .nil))) .nil)) (.cons (.ret (.var 1)) .nil)))
def b_values_at : Ss := (.cons (.asg (.nm 3) (.lc (.nm 6) .seq (.cons (.sub (.var 0) (.int 0)) .nil) .nil (.sub (.var 2) (.call 12 (.cons (.var 6) (.cons (.var 1) .nil)))) [6])) (.cons (.asg (.nm 4) (.call 9 (.cons (.sub (.var 0) (.int 2)) .nil))) (.cons (.loop (.nm 5) .range3 (.cons (.bin .Sub (.call 15 (.cons (.var 3) .nil)) (.int 1)) (.cons (.neg (.int 1)) (.cons (.neg (.int 1)) .nil))) (.cons (.asg (.nm 4) (.call 11 (.cons (.sub (.sub (.var 0) (.int 1)) (.call 13 (.cons (.call 14 (.cons (.var 3) (.cons (.var 5) .nil))) .nil))) (.cons (.var 4) .nil)))) .nil)) (.cons (.ret (.var 4)) .nil))))
def b_told_at : Ss := (.cons (.ret (.call 10 (.cons (.sub (.var 0) (.int 3)) (.cons (.call 16 (.cons (.var 0) (.cons (.var 1) (.cons (.var 2) .nil)))) .nil)))) .nil)
def b_all_values_at : Ss := (.cons (.asg (.nm 3) (.lst .nil)) (.cons (.loop (.nm 4) .seq (.cons (.var 0) .nil) (.cons (.asg (.nm 3) (.bin .Add (.var 3) (.call 16 (.cons (.var 4) (.cons (.var 1) (.cons (.var 2) .nil)))))) .nil)) (.cons (.ret (.var 3)) .nil)))
def b_names_of : Ss := (.cons (.asg (.nm 1) (.lst .nil)) (.cons (.loop (.nm 2) .seq (.cons (.var 0) .nil) (.cons (.asg (.nm 1) (.bin .Add (.var 1) (.lc (.nm 3) .seq (.cons (.var 2) .nil) (.cons (.cmp .NotIn (.var 3) (.var 1)) .nil) (.var 3) [3]))) .nil)) (.cons (.ret (.bi .tuple (.cons (.bi .sorted (.cons (.lc (.nm 3) .seq (.cons (.var 1) .nil) .nil (.bi .str1 (.cons (.var 3) .nil)) [3]) .nil)) .nil))) .nil)))
def b_are_rules : Ss := (.cons (.ret (.and (.bi .all (.cons (.lc (.nm 1) .seq (.cons (.var 0) .nil) .nil (.call 8 (.cons (.var 1) .nil)) [1]) .nil)) (.cmp .LtE (.bi .len (.cons (.call 19 (.cons (.lc (.nm 1) .seq (.cons (.var 0) .nil) .nil (.sub (.var 1) (.int 0)) [1]) .nil)) .nil)) (.glob (.int 3))))) .nil)
def b_is_ahead : Ss := (.cons (.asg (.tp (.cons (.nm 2) (.cons (.nm 3) .nil))) (.tup (.cons (.call 15 (.cons (.var 0) .nil)) (.cons (.call 15 (.cons (.var 1) .nil)) .nil)))) (.cons (.ret (.ite (.cmp .Eq (.var 2) (.var 3)) (.cmp .Lt (.var 0) (.var 1)) (.cmp .Lt (.var 2) (.var 3)))) .nil))
def b_is_point : Ss := (.cons (.ite (.or (.not (.isi (.var 0) [.tuple])) (.cmp .NotEq (.bi .len (.cons (.var 0) .nil)) (.var 1))) (.cons (.ret (.bl false)) .nil) .nil) (.cons (.ret (.bi .all (.cons (.lc (.nm 2) .seq (.cons (.var 0) .nil) .nil (.and (.call 0 (.cons (.var 2) .nil)) (.cmp .GtE (.var 2) (.int 0))) [2]) .nil))) .nil))
def b_are_points : Ss := (.cons (.ite (.or (.not (.isi (.var 0) [.tuple])) (.or (.cmp .Gt (.bi .len (.cons (.var 0) .nil)) (.glob (.int 200))) (.not (.bi .all (.cons (.lc (.nm 3) .seq (.cons (.var 0) .nil) .nil (.call 22 (.cons (.var 3) (.cons (.var 1) .nil))) [3]) .nil))))) (.cons (.ret (.bl false)) .nil) .nil) (.cons (.ret (.bi .all (.cons (.lc (.nm 2) .range2 (.cons (.int 1) (.cons (.bi .len (.cons (.var 0) .nil)) .nil)) .nil (.call 21 (.cons (.sub (.var 0) (.bin .Sub (.var 2) (.int 1))) (.cons (.sub (.var 0) (.var 2)) .nil))) [2]) .nil))) .nil))
def b_begins : Ss := (.cons (.ite (.or (.and (.cmp .Gt (.bi .len (.cons (.var 0) .nil)) (.int 0)) (.cmp .Eq (.sub (.var 0) (.int 0)) (.var 2))) (.cmp .Eq (.var 3) (.var 2))) (.cons (.ret (.bl true)) .nil) .nil) (.cons (.ret (.bi .all (.cons (.lc2 (.nm 4) .seq (.cons (.var 1) .nil) .nil (.nm 5) .seq (.cons (.sub (.var 4) (.int 2)) .nil) .nil (.cmp .Eq (.var 5) (.int 0)) [4, 5] [5]) .nil))) .nil))
def b_is_made : Ss := (.cons (.ite (.not (.call 5 (.cons (.var 0) (.cons (.bi .len (.cons (.var 1) .nil)) .nil)))) (.cons (.ret (.bl false)) .nil) .nil) (.cons (.loop (.tp (.cons (.nm 5) (.cons (.nm 6) .nil))) .zip (.cons (.var 0) (.cons (.var 1) .nil)) (.cons (.ite (.and (.cmp .NotEq (.sub (.var 5) (.int 0)) (.int 0)) (.call 21 (.cons (.var 3) (.cons (.var 6) .nil)))) (.cons (.ret (.bl false)) .nil) .nil) .nil)) (.cons (.ret (.bi .all (.cons (.lc (.nm 7) .range1 (.cons (.bi .len (.cons (.var 4) .nil)) .nil) .nil (.cmp .Eq (.call 10 (.cons (.var 0) (.cons (.lc (.nm 8) .seq (.cons (.var 2) .nil) .nil (.sub (.var 8) (.var 7)) [8]) .nil))) (.sub (.var 4) (.var 7))) [7]) .nil))) .nil)))
def b_has_rows : Ss := (.cons (.asg (.nm 7) (.call 7 (.cons (.bi .len (.cons (.var 5) .nil)) .nil))) (.cons (.ite (.or (.not (.isi (.var 0) [.tuple])) (.cmp .NotEq (.bi .len (.cons (.var 0) .nil)) (.bi .len (.cons (.var 7) .nil)))) (.cons (.ret (.bl false)) .nil) .nil) (.cons (.loop (.tp (.cons (.nm 8) (.cons (.nm 9) .nil))) .zip (.cons (.var 0) (.cons (.var 7) .nil)) (.cons (.asg (.nm 10) (.bi .tuple (.cons (.lc (.tp (.cons (.nm 11) (.cons (.nm 12) .nil))) .zip (.cons (.var 1) (.cons (.var 9) .nil)) .nil (.bin .Add (.bin .Mult (.int 2) (.var 11)) (.var 12)) [11, 12]) .nil))) (.cons (.ite (.cmp .Is (.var 8) .non) (.cons (.ite (.or (.cmp .Is (.var 6) .non) (.call 21 (.cons (.var 10) (.cons (.var 6) .nil)))) (.cons (.ret (.bl false)) .nil) .nil) .nil) (.cons (.ite (.not (.call 25 (.cons (.var 8) (.cons (.var 2) (.cons (.var 3) (.cons (.var 10) (.cons (.call 18 (.cons (.var 4) (.cons (.var 5) (.cons (.var 10) .nil)))) .nil))))))) (.cons (.ret (.bl false)) .nil) .nil) .nil)) .nil))) (.cons (.ret (.bl true)) .nil))))
def b_is_span : Ss := (.cons (.ite (.or (.not (.isi (.var 0) [.tuple])) (.or (.cmp .NotEq (.bi .len (.cons (.var 0) .nil)) (.int 2)) (.not (.call 23 (.cons (.sub (.var 0) (.int 0)) (.cons (.bi .len (.cons (.var 2) .nil)) .nil)))))) (.cons (.ret (.bl false)) .nil) .nil) (.cons (.asg (.tp (.cons (.nm 5) (.cons (.nm 6) .nil))) (.var 0)) (.cons (.ite (.and (.cmp .IsNot (.var 3) .non) (.not (.bi .all (.cons (.lc (.nm 8) .seq (.cons (.var 5) .nil) .nil (.call 21 (.cons (.var 8) (.cons (.var 3) .nil))) [8]) .nil)))) (.cons (.ret (.bl false)) .nil) .nil) (.cons (.ite (.not (.call 24 (.cons (.var 5) (.cons (.var 1) (.cons (.bin .Mult (.tup (.cons (.int 0) .nil)) (.bi .len (.cons (.var 2) .nil))) (.cons (.var 3) .nil)))))) (.cons (.ret (.bl false)) .nil) .nil) (.cons (.ite (.or (.not (.isi (.var 6) [.tuple])) (.cmp .NotEq (.bi .len (.cons (.var 6) .nil)) (.bi .len (.cons (.var 5) .nil)))) (.cons (.ret (.bl false)) .nil) .nil) (.cons (.asg (.nm 4) (.lc (.nm 8) .seq (.cons (.var 5) .nil) .nil (.call 18 (.cons (.var 1) (.cons (.var 2) (.cons (.var 8) .nil)))) [8])) (.cons (.loop (.tp (.cons (.nm 7) (.cons (.nm 8) .nil))) .zip (.cons (.var 6) (.cons (.var 5) .nil)) (.cons (.ite (.not (.call 26 (.cons (.var 7) (.cons (.var 8) (.cons (.var 5) (.cons (.var 4) (.cons (.var 1) (.cons (.var 2) (.cons (.var 3) .nil))))))))) (.cons (.ret (.bl false)) .nil) .nil) .nil)) (.cons (.ret (.bl true)) .nil))))))))
def b_accepts : Ss := (.cons (.ite (.or (.not (.isi (.var 0) [.tuple])) (.or (.cmp .Eq (.bi .len (.cons (.var 0) .nil)) (.int 0)) (.not (.isi (.sub (.var 0) (.int 0)) [.str])))) (.cons (.ret (.bl false)) .nil) .nil) (.cons (.ite (.cmp .NotEq (.bi .len (.cons (.var 0) .nil)) (.kget "LENGTHS" (.sub (.var 0) (.int 0)) (.int 0))) (.cons (.ret (.bl false)) .nil) .nil) (.cons (.ite (.cmp .Eq (.sub (.var 0) (.int 0)) (.str "relation")) (.cons (.ret (.call 35 (.cons (.sub (.var 0) (.int 1)) (.cons (.sub (.var 0) (.int 2)) (.cons (.var 1) .nil))))) .nil) .nil) (.cons (.ite (.cmp .In (.sub (.var 0) (.int 0)) (.tup (.cons (.str "within") (.cons (.str "outside") .nil)))) (.cons .nev .nil) .nil) (.cons (.ret (.call 33 (.cons (.var 0) (.cons (.var 1) .nil)))) .nil)))))
def b_is_empty : Ss := (.cons (.ret (.and (.isi (.var 0) [.tuple]) (.cmp .Eq (.bi .len (.cons (.var 0) .nil)) (.int 0)))) .nil)
def b_is_number_of : Ss := (.cons (.ite (.or (.not (.isi (.var 0) [.tuple])) (.or (.cmp .NotEq (.bi .len (.cons (.var 0) .nil)) (.int 2)) (.or (.not (.isi (.sub (.var 0) (.int 0)) [.str])) (.cmp .NotEq (.sub (.var 0) (.int 0)) (.var 1))))) (.cons (.ret (.bl false)) .nil) .nil) (.cons (.ret (.and (.call 0 (.cons (.sub (.var 0) (.int 1)) .nil)) (.cmp .GtE (.sub (.var 0) (.int 1)) (.int 0)))) .nil))
def b_are_numbers : Ss := (.cons (.ite (.or (.not (.isi (.var 0) [.tuple])) (.cmp .NotEq (.bi .len (.cons (.var 0) .nil)) (.bi .len (.cons (.var 1) .nil)))) (.cons (.ret (.bl false)) .nil) .nil) (.cons (.ret (.bi .all (.cons (.lc (.tp (.cons (.nm 2) (.cons (.nm 3) .nil))) .zip (.cons (.var 0) (.cons (.var 1) .nil)) .nil (.call 30 (.cons (.var 2) (.cons (.var 3) .nil))) [2, 3]) .nil))) .nil))
def b_are_alike : Ss := (.cons (.ret (.cmp .Eq (.call 17 (.cons (.sub (.var 0) (.int 0)) (.cons (.var 1) (.cons (.var 2) .nil)))) (.call 17 (.cons (.sub (.var 0) (.int 1)) (.cons (.var 1) (.cons (.var 2) .nil)))))) .nil)
def b_are_rules_so : Ss := (.cons (.asg (.nm 2) (.slice (.var 0) (.ex (.int 1)) (.ex (.int 3)))) (.cons (.ite (.not (.call 20 (.cons (.var 2) .nil))) (.cons (.ret (.bl false)) .nil) .nil) (.cons (.asg (.nm 3) (.call 19 (.cons (.lc (.nm 5) .seq (.cons (.var 2) .nil) .nil (.sub (.var 5) (.int 0)) [5]) .nil))) (.cons (.asg (.nm 4) .non) (.cons (.ite (.cmp .NotEq (.sub (.var 0) (.int 0)) (.str "same")) (.cons (.ite (.not (.call 31 (.cons (.sub (.var 0) (.int 3)) (.cons (.var 3) .nil)))) (.cons (.ret (.bl false)) .nil) .nil) (.cons (.asg (.nm 4) (.bi .tuple (.cons (.lc (.tp (.cons (.nm 7) (.cons (.nm 8) .nil))) .seq (.cons (.sub (.var 0) (.int 3)) .nil) .nil (.var 8) [7, 8]) .nil))) (.cons (.ite (.call 32 (.cons (.var 2) (.cons (.var 3) (.cons (.var 4) .nil)))) (.cons (.ret (.bl false)) .nil) .nil) .nil))) .nil) (.cons (.ite (.cmp .Eq (.sub (.var 0) (.int 0)) (.str "apart")) (.cons (.ret (.and (.call 29 (.cons (.var 1) .nil)) (.bi .all (.cons (.lc (.nm 8) .seq (.cons (.var 4) .nil) .nil (.cmp .LtE (.var 8) (.glob (.int 10000000000000000000000000000000000000000000000000000000000000000000000000000000000000000000000000000))) [8]) .nil)))) .nil) .nil) (.cons (.ite (.not (.call 27 (.cons (.var 1) (.cons (.var 2) (.cons (.var 3) (.cons (.var 4) .nil)))))) (.cons (.ret (.bl false)) .nil) .nil) (.cons (.ret (.bi .all (.cons (.lc (.nm 6) .seq (.cons (.sub (.var 1) (.int 0)) .nil) .nil (.call 32 (.cons (.var 2) (.cons (.var 3) (.cons (.var 6) .nil)))) [6]) .nil))) .nil))))))))
def b_is_zero_at : Ss := (.cons (.asg (.nm 4) (.lc (.nm 5) .seq (.cons (.var 0) .nil) .nil (.call 17 (.cons (.var 5) (.cons (.var 2) (.cons (.var 3) .nil)))) [5])) (.cons (.ret (.cmp .Eq (.call 10 (.cons (.lc (.nm 6) .seq (.cons (.var 1) .nil) .nil (.tup (.cons (.var 6) (.cons (.int 1) .nil))) [6]) (.cons (.var 4) .nil))) (.tup (.cons (.int 0) (.cons (.int 1) .nil))))) .nil))
def b_is_relation : Ss := (.cons (.ite (.or (.not (.isi (.var 0) [.tuple])) (.or (.not (.cmp2 .Lt .LtE (.int 0) (.bi .len (.cons (.var 0) .nil)) (.glob (.int 6)))) (.not (.call 20 (.cons (.var 0) .nil))))) (.cons (.ret (.bl false)) .nil) .nil) (.cons (.ite (.or (.not (.isi (.var 1) [.tuple])) (.or (.cmp .NotEq (.bi .len (.cons (.var 1) .nil)) (.bi .len (.cons (.var 0) .nil))) (.not (.bi .all (.cons (.lc (.nm 6) .seq (.cons (.var 1) .nil) .nil (.call 0 (.cons (.var 6) .nil)) [6]) .nil))))) (.cons (.ret (.bl false)) .nil) .nil) (.cons (.asg (.nm 3) (.call 19 (.cons (.lc (.nm 4) .seq (.cons (.var 0) .nil) .nil (.sub (.var 4) (.int 0)) [4]) .nil))) (.cons (.ite (.not (.call 27 (.cons (.var 2) (.cons (.var 0) (.cons (.var 3) (.cons .non .nil)))))) (.cons (.ret (.bl false)) .nil) .nil) (.cons (.ret (.bi .all (.cons (.lc (.nm 5) .seq (.cons (.sub (.var 2) (.int 0)) .nil) .nil (.call 34 (.cons (.var 0) (.cons (.var 1) (.cons (.var 3) (.cons (.var 5) .nil))))) [5]) .nil))) .nil)))))
def b_law_cell : Ss := (.cons (.ite (.cmp .Lt (.var 1) (.bi .len (.cons (.var 0) .nil))) (.cons (.ret (.bi .int1 (.cons (.sub (.var 0) (.var 1)) .nil))) .nil) .nil) (.cons (.asg (.nm 2) (.bin .Mod (.bi .int1 (.cons (.bin .Mult (.int 68927) (.bin .Add (.bin .Add (.bin .Mult (.var 1) (.var 1)) (.bin .Mult (.int 17) (.var 1))) (.int 3))) .nil)) (.int 2147483563))) (.cons (.loop (.nm 3) .seq (.cons (.slice (.var 0) .no (.ex (.int 3))) .nil) (.cons (.asg (.nm 2) (.bin .Mod (.bi .int1 (.cons (.bin .Add (.bin .Mult (.var 2) (.int 52361)) (.bi .int1 (.cons (.var 3) .nil))) .nil)) (.int 2147483563))) .nil)) (.cons (.ret (.var 2)) .nil))))
def b_law_purse : Ss := (.cons (.asg (.nm 1) (.ite (.or (.cmp .Lt (.var 0) (.int 0)) (.cmp .GtE (.var 0) (.bin .Pow (.int 10) (.int 18)))) (.bi .abs (.cons (.bi .int1 (.cons (.var 0) .nil)) .nil)) (.int 0))) (.cons (.retLoc (.cons (.bin .Mod (.bi .int1 (.cons (.var 0) .nil)) (.int 2147483563)) (.cons (.var 1) (.cons (.int 0) .nil)))) .nil))
def b_law_draw : Ss := (.cons (.asg (.sub (.var 0) (.int 2)) (.bin .Add (.sub (.var 0) (.int 2)) (.int 1))) (.cons (.asg (.nm 2) (.bi .int1 (.cons (.sub (.var 0) (.int 0)) .nil))) (.cons (.asg (.sub (.var 0) (.int 0)) (.bin .Mod (.bi .int1 (.cons (.bin .Add (.bin .Add (.bin .Mult (.var 2) (.bin .Add (.bin .Mod (.var 2) (.int 28657)) (.int 46337))) (.bin .Mult (.int 75011) (.sub (.var 0) (.int 2)))) (.int 29)) .nil)) (.int 2147483563))) (.cons (.ite (.cmp .Gt (.sub (.var 0) (.int 1)) (.int 0)) (.cons (.asg (.tp (.cons (.sub (.var 0) (.int 1)) (.cons (.nm 3) .nil))) (.bi .divmod (.cons (.bi .int1 (.cons (.sub (.var 0) (.int 1)) .nil)) (.cons (.var 1) .nil)))) (.cons (.ret (.var 3)) .nil)) .nil) (.cons (.ret (.bin .Mod (.bin .FloorDiv (.bi .int1 (.cons (.sub (.var 0) (.int 0)) .nil)) (.int 64)) (.var 1))) .nil)))))
def b_law_one_of : Ss := (.cons (.ret (.sub (.var 1) (.call 38 (.cons (.var 0) (.cons (.bi .len (.cons (.var 1) .nil)) .nil))))) .nil)
def b_law_name : Ss := (.cons (.asg (.nm 1) (.str "")) (.cons (.loop (.nm 2) .range1 (.cons (.bin .Add (.int 1) (.call 38 (.cons (.var 0) (.cons (.int 8) .nil)))) .nil) (.cons (.asg (.nm 1) (.bin .Add (.var 1) (.sub (.str "abcdefghijklmnopqrstuvwxyz") (.call 38 (.cons (.var 0) (.cons (.int 26) .nil)))))) .nil)) (.cons (.ret (.var 1)) .nil)))
def b_law_two_names : Ss := (.cons (.asg (.tp (.cons (.nm 1) (.cons (.nm 2) .nil))) (.tup (.cons (.call 40 (.cons (.var 0) .nil)) (.cons (.call 40 (.cons (.var 0) .nil)) .nil)))) (.cons (.ite (.cmp .Eq (.var 1) (.var 2)) (.cons (.asg (.nm 2) (.ite (.cmp .NotEq (.var 1) (.str "a")) (.str "a") (.str "b"))) .nil) .nil) (.cons (.ret (.tup (.cons (.var 1) (.cons (.var 2) .nil)))) .nil)))
def b_law_divisor : Ss := (.cons (.asg (.tp (.cons (.nm 2) (.cons (.nm 3) .nil))) (.tup (.cons (.bi .abs (.cons (.var 0) .nil)) (.cons (.bi .abs (.cons (.var 1) .nil)) .nil)))) (.cons (.whil (.cmp .Gt (.var 3) (.int 0)) (.cons (.asg (.tp (.cons (.nm 2) (.cons (.nm 3) .nil))) (.tup (.cons (.var 3) (.cons (.bin .Mod (.bi .int1 (.cons (.var 2) .nil)) (.var 3)) .nil)))) .nil)) (.cons (.ret (.var 2)) .nil)))
def b_law_fraction : Ss := (.cons (.asg (.nm 2) (.call 42 (.cons (.var 0) (.cons (.var 1) .nil)))) (.cons (.asg (.nm 3) (.ite (.cmp .Lt (.var 1) (.int 0)) (.neg (.int 1)) (.int 1))) (.cons (.ret (.tup (.cons (.bin .FloorDiv (.bin .Mult (.var 3) (.var 0)) (.var 2)) (.cons (.bin .FloorDiv (.bin .Mult (.var 3) (.var 1)) (.var 2)) .nil)))) .nil)))
def b_law_steps : Ss := (.cons (.ret (.ite (.cmp .Eq (.var 0) (.int 1)) (.lst (.cons (.tup (.cons (.int 0) .nil)) (.cons (.tup (.cons (.int 1) .nil)) .nil))) (.lst (.cons (.tup (.cons (.int 0) (.cons (.int 0) .nil))) (.cons (.tup (.cons (.int 0) (.cons (.int 1) .nil))) (.cons (.tup (.cons (.int 1) (.cons (.int 0) .nil))) (.cons (.tup (.cons (.int 1) (.cons (.int 1) .nil))) .nil))))))) .nil)
def b_law_table : Ss := (.cons (.ite (.cmp .Eq (.bi .len (.cons (.var 0) .nil)) (.int 1)) (.cons (.ret (.lst (.cons (.lst (.cons (.int 1) (.cons (.int 0) (.cons (.int 0) (.cons (.int 0) .nil))))) (.cons (.lst (.cons (.sub (.var 0) (.int 0)) (.cons (.int 2) (.cons (.int 0) (.cons (.int 0) .nil))))) (.cons (.lst (.cons (.sub (.var 0) (.int 0)) (.cons (.int 0) (.cons (.int 1) (.cons (.int 0) .nil))))) (.cons (.lst (.cons (.int 0) (.cons (.int 0) (.cons (.int 0) (.cons (.bin .Add (.int 1) (.bin .Mult (.int 2) (.sub (.var 0) (.int 0)))) .nil))))) .nil)))))) .nil) .nil) (.cons (.asg (.nm 1) (.bin .Mult (.sub (.var 0) (.int 0)) (.sub (.var 0) (.int 1)))) (.cons (.ret (.lst (.cons (.lst (.cons (.int 1) (.cons (.int 0) (.cons (.int 0) (.cons (.int 0) .nil))))) (.cons (.lst (.cons (.sub (.var 0) (.int 0)) (.cons (.int 2) (.cons (.int 0) (.cons (.int 0) .nil))))) (.cons (.lst (.cons (.sub (.var 0) (.int 1)) (.cons (.int 0) (.cons (.int 2) (.cons (.int 0) .nil))))) (.cons (.lst (.cons (.var 1) (.cons (.int 0) (.cons (.int 0) (.cons (.int 2) .nil))))) .nil)))))) .nil)))
def b_law_worths : Ss := (.cons (.ite (.cmp .Eq (.bi .len (.cons (.var 0) .nil)) (.int 2)) (.cons (.ret (.lst (.cons (.int 1) (.cons (.sub (.var 0) (.int 0)) (.cons (.sub (.var 0) (.int 1)) (.cons (.bin .BitAnd (.sub (.var 0) (.int 0)) (.sub (.var 0) (.int 1))) .nil)))))) .nil) .nil) (.cons (.asg (.tp (.cons (.nm 1) (.cons (.nm 2) (.cons (.nm 3) .nil)))) (.tup (.cons (.sub (.var 0) (.int 0)) (.cons (.int 0) (.cons (.int 1) .nil))))) (.cons (.whil (.cmp .Gt (.var 1) (.int 0)) (.cons (.ite (.cmp .Eq (.bin .Mod (.bi .int1 (.cons (.var 1) .nil)) (.int 2)) (.int 1)) (.cons (.asg (.tp (.cons (.nm 2) (.cons (.nm 3) .nil))) (.tup (.cons (.bin .Add (.var 2) (.int 1)) (.cons (.bin .Mult (.var 3) (.int 3)) .nil)))) .nil) .nil) (.cons (.asg (.nm 1) (.bin .FloorDiv (.var 1) (.int 2))) .nil))) (.cons (.ret (.lst (.cons (.int 1) (.cons (.sub (.var 0) (.int 0)) (.cons (.var 2) (.cons (.var 3) .nil)))))) .nil))))
def b_law_shares : Ss := (.cons (.asg (.nm 1) (.lst (.cons (.lst (.cons (.int 3) (.cons (.int 1) (.cons (.int 1) (.cons (.neg (.int 1)) .nil))))) (.cons (.lst (.cons (.int 0) (.cons (.neg (.int 4)) (.cons (.int 4) (.cons (.int 0) .nil))))) (.cons (.lst (.cons (.neg (.int 6)) (.cons (.int 10) (.cons (.neg (.int 2)) (.cons (.neg (.int 2)) .nil))))) (.cons (.lst (.cons (.int 1) (.cons (.neg (.int 1)) (.cons (.neg (.int 1)) (.cons (.int 1) .nil))))) .nil)))))) (.cons (.ite (.cmp .Eq (.bi .len (.cons (.var 0) .nil)) (.int 2)) (.cons (.asg (.nm 1) (.lst (.cons (.lst (.cons (.int 4) (.cons (.int 0) (.cons (.int 0) (.cons (.int 0) .nil))))) (.cons (.lst (.cons (.neg (.int 4)) (.cons (.int 0) (.cons (.int 4) (.cons (.int 0) .nil))))) (.cons (.lst (.cons (.neg (.int 4)) (.cons (.int 4) (.cons (.int 0) (.cons (.int 0) .nil))))) (.cons (.lst (.cons (.int 4) (.cons (.neg (.int 4)) (.cons (.neg (.int 4)) (.cons (.int 4) .nil))))) .nil)))))) .nil) .nil) (.cons (.asg (.nm 2) (.call 46 (.cons (.var 0) .nil))) (.cons (.ret (.lc (.nm 3) .range1 (.cons (.int 4) .nil) .nil (.call 43 (.cons (.bi .sum (.cons (.lc (.nm 4) .range1 (.cons (.int 4) .nil) .nil (.bin .Mult (.sub (.var 2) (.var 4)) (.sub (.sub (.var 1) (.var 4)) (.var 3))) [4]) .nil)) (.cons (.int 4) .nil))) [3])) .nil))))
def b_law_rule : Ss := (.cons (.asg (.nm 3) (.sub (.lst (.cons (.lst (.cons (.int 0) (.cons (.int 1) (.cons (.int 2) (.cons (.int 3) .nil))))) (.cons (.lst (.cons (.int 3) (.cons (.int 0) (.cons (.int 2) (.cons (.int 1) .nil))))) (.cons (.lst (.cons (.int 1) (.cons (.int 2) (.cons (.int 3) (.cons (.int 0) .nil))))) (.cons (.lst (.cons (.int 2) (.cons (.int 3) (.cons (.int 0) (.cons (.int 1) (.cons (.int 0) .nil)))))) (.cons (.lst (.cons (.int 0) (.cons (.int 3) (.cons (.int 1) (.cons (.int 2) (.cons (.int 2) .nil)))))) .nil)))))) (.call 38 (.cons (.var 0) (.cons (.int 5) .nil))))) (.cons (.asg (.nm 4) (.lc (.nm 11) .seq (.cons (.var 3) .nil) .nil (.call 39 (.cons (.var 0) (.cons (.lst (.cons (.int 1) (.cons (.int 1) (.cons (.int 2) (.cons (.neg (.int 3)) (.cons (.int 5) .nil)))))) .nil))) [11])) (.cons (.asgOwn 5 (.lst .nil)) (.cons (.loop (.nm 6) .seq (.cons (.call 44 (.cons (.bi .len (.cons (.var 1) .nil)) .nil)) .nil) (.cons (.asgTO 12 13 (.call 45 (.cons (.var 6) .nil)) (.lst .nil)) (.cons (.loop (.nm 10) .range1 (.cons (.bi .len (.cons (.var 3) .nil)) .nil) (.cons (.asg (.nm 14) (.lc (.nm 11) .range1 (.cons (.bi .len (.cons (.var 3) .nil)) .nil) .nil (.ite (.cmp .Eq (.bm .index (.var 3) (.cons (.sub (.var 3) (.var 11)) .nil)) (.var 11)) (.sub (.sub (.var 12) (.sub (.var 3) (.var 10))) (.sub (.var 3) (.var 11))) (.int 0)) [11])) (.cons (.app 13 (.bi .tuple (.cons (.lc (.nm 11) .range1 (.cons (.bi .len (.cons (.var 3) .nil)) .nil) .nil (.call 43 (.cons (.bin .Mult (.sub (.var 4) (.var 10)) (.sub (.var 14) (.var 11))) (.cons (.sub (.var 4) (.var 11)) .nil))) [11]) .nil))) .nil))) (.cons (.app 5 (.bi .tuple (.cons (.own 13) .nil))) .nil)))) (.cons (.asg (.nm 7) (.call 46 (.cons (.bin .Mult (.tup (.cons (.int 0) .nil)) (.bi .len (.cons (.var 1) .nil))) .nil))) (.cons (.asg (.nm 8) (.bi .tuple (.cons (.lc (.nm 10) .range1 (.cons (.bi .len (.cons (.var 3) .nil)) .nil) .nil (.bin .Mult (.sub (.var 4) (.var 10)) (.sub (.var 7) (.sub (.var 3) (.var 10)))) [10]) .nil))) (.cons (.asg (.nm 9) (.lc (.nm 10) .range1 (.cons (.bi .len (.cons (.var 3) .nil)) .nil) .nil (.call 43 (.cons (.ite (.cmp .Eq (.bm .index (.var 3) (.cons (.sub (.var 3) (.var 10)) .nil)) (.var 10)) (.sub (.var 2) (.sub (.var 3) (.var 10))) (.int 0)) (.cons (.sub (.var 4) (.var 10)) .nil))) [10])) (.cons (.ret (.tup (.cons (.bi .tuple (.cons (.var 1) .nil)) (.cons (.bi .tuple (.cons (.own 5) .nil)) (.cons (.var 8) (.cons (.bi .tuple (.cons (.var 9) .nil)) .nil)))))) .nil))))))))
def b_law_factors : Ss := (.cons (.ret (.lc (.nm 1) .range1 (.cons (.int 4) .nil) .nil (.call 39 (.cons (.var 0) (.cons (.lst (.cons (.int 0) (.cons (.int 0) (.cons (.int 1) (.cons (.neg (.int 1)) (.cons (.int 2) (.cons (.int 7) (.cons (.bin .Pow (.int 10) (.int 12)) (.cons (.neg (.int 5)) .nil))))))))) .nil))) [1])) .nil)
def b_law_so : Ss := (.cons (.ret (.ite (.var 1) (.cmp .Is (.var 0) (.bl true)) (.cmp .Is (.var 0) (.bl false)))) .nil)
def b_law_put : Ss := (.cons (.ret (.bin .Add (.bin .Add (.slice (.var 0) .no (.ex (.var 1))) (.tup (.cons (.var 2) .nil))) (.slice (.var 0) (.ex (.bin .Add (.var 1) (.int 1))) .no))) .nil)
def b_law_paper : Ss := (.cons (.asgOwn 2 (.lst .nil)) (.cons (.loop (.nm 3) .seq (.cons (.var 0) .nil) (.cons (.asgOwn 4 (.lst .nil)) (.cons (.loop (.nm 5) .seq (.cons (.lst (.cons (.bin .Mult (.int 2) (.var 3)) (.cons (.bin .Add (.bin .Mult (.int 2) (.var 3)) (.int 1)) .nil))) .nil) (.cons (.asg (.nm 6) (.call 47 (.cons (.tup (.cons (.var 5) .nil)) .nil))) (.cons (.asg (.nm 7) (.and (.cmp .IsNot (.var 1) .non) (.cmp .GtE (.var 5) (.var 1)))) (.cons (.app 4 (.ite (.var 7) .non (.bi .tuple (.cons (.lc (.nm 8) .seq (.cons (.var 0) .nil) .nil (.ite (.cmp .Lt (.var 8) (.int 4)) (.sub (.var 6) (.var 8)) (.tup (.cons (.int 0) (.cons (.int 1) .nil)))) [8]) .nil)))) .nil)))) (.cons (.app 2 (.bi .tuple (.cons (.own 4) .nil))) .nil)))) (.cons (.ret (.tup (.cons (.bi .tuple (.cons (.lc (.nm 3) .seq (.cons (.var 0) .nil) .nil (.tup (.cons (.var 3) .nil)) [3]) .nil)) (.cons (.bi .tuple (.cons (.own 2) .nil)) .nil)))) .nil)))
def b_law_with_share : Ss := (.cons (.ret (.tup (.cons (.sub (.var 0) (.int 0)) (.cons (.call 55 (.cons (.sub (.var 0) (.int 1)) (.cons (.var 1) (.cons (.call 55 (.cons (.sub (.sub (.var 0) (.int 1)) (.var 1)) (.cons (.var 2) (.cons (.var 3) .nil)))) .nil)))) .nil)))) .nil)
def b_law_behind_right : Ss := (.cons (.asg (.tp (.cons (.nm 3) (.cons (.nm 4) .nil))) (.tup (.cons (.call 56 (.cons (.lst (.cons (.int 0) (.cons (.int 1) (.cons (.int 2) (.cons (.int 3) (.cons (.int 4) .nil)))))) (.cons .non .nil))) (.cons (.tup (.cons (.str "same") (.cons (.var 1) (.cons (.var 1) .nil)))) .nil)))) (.cons (.ite (.cmp .IsNot (.call 28 (.cons (.var 4) (.cons (.var 3) .nil))) (.bl true)) (.cons (.ret (.bl false)) .nil) .nil) (.cons (.loop (.nm 2) .range1 (.cons (.int 4) .nil) (.cons (.asg (.tp (.cons (.nm 7) (.cons (.nm 8) .nil))) (.tup (.cons (.call 38 (.cons (.var 0) (.cons (.int 5) .nil))) (.cons (.call 38 (.cons (.var 0) (.cons (.int 2) .nil))) .nil)))) (.cons (.asg (.tp (.cons (.nm 9) (.cons (.nm 10) .nil))) (.call 39 (.cons (.var 0) (.cons (.lst (.cons (.tup (.cons (.int 1) (.cons (.int 1) .nil))) (.cons (.tup (.cons (.neg (.int 1)) (.cons (.int 1) .nil))) (.cons (.tup (.cons (.int 1) (.cons (.int 3) .nil))) (.cons (.tup (.cons (.neg (.int 5)) (.cons (.int 2) .nil))) (.cons (.tup (.cons (.bin .Pow (.int 10) (.int 9)) (.cons (.int 7) .nil))) .nil)))))) .nil)))) (.cons (.asgOwn 5 (.lst .nil)) (.cons (.loop (.tp (.cons (.tp (.cons (.nm 12) (.cons (.nm 13) .nil))) (.cons (.nm 11) .nil))) .zip (.cons (.sub (.sub (.sub (.var 3) (.int 1)) (.var 7)) (.var 8)) (.cons (.lst (.cons (.int 0) (.cons (.int 2) (.cons (.neg (.int 3)) (.cons (.int 0) (.cons (.int 1) .nil)))))) .nil)) (.cons (.app 5 (.call 43 (.cons (.bin .Add (.bin .Mult (.var 12) (.var 10)) (.bin .Mult (.bin .Mult (.var 9) (.var 11)) (.var 13))) (.cons (.bin .Mult (.var 13) (.var 10)) .nil)))) .nil)) (.cons (.asg (.nm 6) (.bi .all (.cons (.lc (.nm 14) .range1 (.cons (.int 5) .nil) .nil (.or (.cmp .Eq (.sub (.sub (.own 5) (.var 14)) (.int 0)) (.int 0)) (.cmp .LtE (.var 14) (.bin .Add (.bin .Mult (.int 2) (.var 7)) (.var 8)))) [14]) .nil))) (.cons (.ite (.not (.call 54 (.cons (.call 28 (.cons (.var 4) (.cons (.call 57 (.cons (.var 3) (.cons (.var 7) (.cons (.var 8) (.cons (.bi .tuple (.cons (.own 5) .nil)) .nil))))) .nil))) (.cons (.var 6) .nil)))) (.cons (.ret (.bl false)) .nil) .nil) .nil))))))) (.cons (.ret (.bl true)) .nil))))
def b_law_parting_right : Ss := (.cons (.asg (.nm 3) (.call 39 (.cons (.var 0) (.cons (.lst (.cons (.int 1) (.cons (.neg (.int 1)) (.cons (.int 4) (.cons (.bin .Pow (.int 10) (.int 9)) .nil))))) .nil)))) (.cons (.asg (.nm 4) (.lc (.tp (.cons (.nm 13) (.cons (.nm 14) .nil))) .zip (.cons (.var 2) (.cons (.lst (.cons (.neg (.int 1)) (.cons (.int 0) (.cons (.neg (.int 2)) (.cons (.int 1) .nil))))) .nil)) .nil (.bin .Add (.var 13) (.bin .Mult (.var 3) (.var 14))) [13, 14])) (.cons (.asg (.tp (.cons (.nm 9) (.cons (.nm 10) .nil))) (.tup (.cons (.call 48 (.cons (.var 0) (.cons (.lst (.cons (.var 1) .nil)) (.cons (.var 2) .nil)))) (.cons (.call 48 (.cons (.var 0) (.cons (.lst (.cons (.var 1) .nil)) (.cons (.var 4) .nil)))) .nil)))) (.cons (.asg (.tp (.cons (.nm 11) (.cons (.nm 12) .nil))) (.tup (.cons (.tup (.cons (.str "parting") (.cons (.var 9) (.cons (.var 10) (.cons (.tup (.cons (.tup (.cons (.var 1) (.cons (.int 3) .nil))) .nil)) .nil))))) (.cons (.call 56 (.cons (.lst (.cons (.int 0) (.cons (.int 1) (.cons (.int 2) .nil)))) (.cons (.int 3) .nil))) .nil)))) (.cons (.asg (.nm 5) (.tup (.cons (.tup (.cons (.int 0) (.cons (.int 1) .nil))) (.cons (.tup (.cons (.neg (.int 2)) (.cons (.int 1) .nil))) (.cons (.tup (.cons (.int 3) (.cons (.int 1) .nil))) .nil))))) (.cons (.asg (.nm 6) (.call 38 (.cons (.var 0) (.cons (.int 3) .nil)))) (.cons (.asg (.nm 7) (.call 55 (.cons (.var 5) (.cons (.var 6) (.cons (.tup (.cons (.bin .Add (.sub (.sub (.var 5) (.var 6)) (.int 0)) (.int 1)) (.cons (.int 1) .nil))) .nil))))) (.cons (.asg (.nm 8) (.lst (.cons (.call 28 (.cons (.var 11) (.cons (.var 12) .nil))) (.cons (.call 28 (.cons (.var 11) (.cons (.call 57 (.cons (.var 12) (.cons (.int 2) (.cons (.int 0) (.cons (.var 5) .nil))))) .nil))) .nil)))) (.cons (.asg (.nm 8) (.bin .Add (.var 8) (.lst (.cons (.call 28 (.cons (.var 11) (.cons (.call 57 (.cons (.var 12) (.cons (.int 2) (.cons (.int 0) (.cons (.var 7) .nil))))) .nil))) .nil)))) (.cons (.asg (.nm 8) (.bin .Add (.var 8) (.lst (.cons (.call 28 (.cons (.var 11) (.cons (.call 57 (.cons (.var 12) (.cons (.int 2) (.cons (.int 1) (.cons (.var 5) .nil))))) .nil))) (.cons (.call 28 (.cons (.var 11) (.cons (.call 56 (.cons (.lst (.cons (.int 0) (.cons (.int 1) (.cons (.int 2) (.cons (.int 4) .nil))))) (.cons (.int 3) .nil))) .nil))) .nil))))) (.cons (.asg (.nm 8) (.bin .Add (.var 8) (.lst (.cons (.call 28 (.cons (.var 11) (.cons (.call 57 (.cons (.var 12) (.cons (.int 1) (.cons (.int 1) (.cons (.var 5) .nil))))) .nil))) (.cons (.call 28 (.cons (.var 11) (.cons (.tup (.cons (.tup .nil) (.cons (.tup .nil) .nil))) .nil))) .nil))))) (.cons (.ret (.cmp .Eq (.var 8) (.lst (.cons (.bl true) (.cons (.bl true) (.cons (.bl false) (.cons (.bl false) (.cons (.bl false) (.cons (.bl false) (.cons (.bl false) .nil)))))))))) .nil))))))))))))
def b_law_slow_rule : Ss := (.cons (.asg (.tp (.cons (.nm 3) (.cons (.nm 4) (.cons (.nm 5) .nil)))) (.tup (.cons (.tup (.cons (.tup (.cons (.int 1) (.cons (.int 1) .nil))) (.cons (.tup (.cons (.int 0) (.cons (.int 1) .nil))) (.cons (.tup (.cons (.int 0) (.cons (.int 1) .nil))) .nil)))) (.cons (.tup (.cons (.tup (.cons (.int 0) (.cons (.int 1) .nil))) (.cons (.tup (.cons (.int 1) (.cons (.int 1) .nil))) (.cons (.tup (.cons (.int 0) (.cons (.int 1) .nil))) .nil)))) (.cons (.tup (.cons (.tup (.cons (.int 0) (.cons (.int 1) .nil))) (.cons (.tup (.cons (.int 0) (.cons (.int 1) .nil))) (.cons (.tup (.cons (.int 1) (.cons (.int 1) .nil))) .nil)))) .nil))))) (.cons (.asg (.nm 2) (.tup (.cons (.var 3) (.cons (.tup (.cons (.tup (.cons (.int 1) (.cons (.int 1) .nil))) (.cons (.tup (.cons (.int 1) (.cons (.int 1) .nil))) (.cons (.tup (.cons (.int 0) (.cons (.int 1) .nil))) .nil)))) (.cons (.tup (.cons (.tup (.cons (.int 0) (.cons (.int 1) .nil))) (.cons (.tup (.cons (.int 0) (.cons (.int 1) .nil))) (.cons (.tup (.cons (.int 3) (.cons (.int 1) .nil))) .nil)))) .nil))))) (.cons (.ret (.tup (.cons (.tup (.cons (.var 0) .nil)) (.cons (.tup (.cons (.tup (.cons (.var 3) (.cons (.var 4) (.cons (.var 5) .nil)))) (.cons (.var 2) .nil))) (.cons (.tup (.cons (.int 1) (.cons (.int 0) (.cons (.int 1) .nil)))) (.cons (.bi .tuple (.cons (.lc (.nm 6) .seq (.cons (.var 1) .nil) .nil (.tup (.cons (.var 6) (.cons (.int 1) .nil))) [6]) .nil)) .nil)))))) .nil)))
def b_law_slow_right : Ss := (.cons (.asg (.tp (.cons (.nm 6) (.cons (.nm 7) (.cons (.nm 8) (.cons (.nm 9) .nil))))) (.bin .Add (.lc (.nm 16) .range1 (.cons (.int 3) .nil) .nil (.call 39 (.cons (.var 0) (.cons (.lst (.cons (.int 0) (.cons (.int 1) (.cons (.neg (.int 4)) (.cons (.bin .Pow (.int 10) (.int 12)) .nil))))) .nil))) [16]) (.lst (.cons (.bin .Add (.int 1) (.call 38 (.cons (.var 0) (.cons (.int 9) .nil)))) .nil)))) (.cons (.asg (.nm 2) (.call 60 (.cons (.var 1) (.cons (.lst (.cons (.var 6) (.cons (.var 7) (.cons (.var 8) .nil)))) .nil)))) (.cons (.asg (.nm 3) (.call 60 (.cons (.var 1) (.cons (.lst (.cons (.bin .Sub (.var 6) (.var 9)) (.cons (.bin .Sub (.var 7) (.bin .Mult (.int 2) (.var 9))) (.cons (.bin .Add (.var 8) (.var 9)) .nil)))) .nil)))) (.cons (.asg (.tp (.cons (.nm 10) (.cons (.nm 11) (.cons (.nm 12) .nil)))) (.tup (.cons (.tup (.cons (.tup (.cons (.int 1) (.cons (.int 1) .nil))) (.cons (.tup (.cons (.int 0) (.cons (.int 1) .nil))) (.cons (.tup (.cons (.int 0) (.cons (.int 1) .nil))) .nil)))) (.cons (.tup (.cons (.tup (.cons (.int 0) (.cons (.int 1) .nil))) (.cons (.tup (.cons (.int 1) (.cons (.int 1) .nil))) (.cons (.tup (.cons (.int 0) (.cons (.int 1) .nil))) .nil)))) (.cons (.tup (.cons (.tup (.cons (.int 0) (.cons (.int 1) .nil))) (.cons (.tup (.cons (.int 0) (.cons (.int 1) .nil))) (.cons (.tup (.cons (.int 1) (.cons (.int 1) .nil))) .nil)))) .nil))))) (.cons (.asg (.nm 4) (.tup (.cons (.tup (.cons (.int 0) (.cons (.int 1) .nil))) (.cons (.tup (.cons (.int 1) (.cons (.int 2) .nil))) (.cons (.tup (.cons (.int 1) (.cons (.int 2) .nil))) .nil))))) (.cons (.asgOwn 5 (.lst .nil)) (.cons (.loop (.tp (.cons (.nm 13) (.cons (.nm 14) .nil))) .seq (.cons (.lst (.cons (.tup (.cons (.var 11) (.cons (.var 11) .nil))) (.cons (.tup (.cons (.var 11) (.cons (.var 12) .nil))) (.cons (.tup (.cons (.var 11) (.cons (.var 4) .nil))) (.cons (.tup (.cons (.var 12) (.cons (.var 11) .nil))) (.cons (.tup (.cons (.var 4) (.cons (.var 11) .nil))) .nil)))))) .nil) (.cons (.asg (.nm 15) (.tup (.cons (.tup (.cons (.tup (.cons (.int 0) .nil)) (.cons (.tup (.cons (.int 1) .nil)) (.cons (.tup (.cons (.int 2) .nil)) .nil)))) (.cons (.tup (.cons (.tup (.cons (.var 10) (.cons (.var 13) .nil))) (.cons (.tup (.cons (.var 14) (.cons .non .nil))) (.cons (.tup (.cons .non (.cons .non .nil))) .nil)))) .nil)))) (.cons (.app 5 (.call 28 (.cons (.tup (.cons (.str "parting") (.cons (.var 2) (.cons (.var 3) (.cons (.tup (.cons (.tup (.cons (.var 1) (.cons (.int 3) .nil))) .nil)) .nil))))) (.cons (.var 15) .nil)))) .nil))) (.cons (.ret (.cmp .Eq (.own 5) (.lst (.cons (.bl true) (.cons (.bl true) (.cons (.bl true) (.cons (.bl false) (.cons (.bl false) .nil)))))))) .nil))))))))
def b_law_zeros_right : Ss := (.cons (.asg (.nm 2) (.call 39 (.cons (.var 0) (.cons (.lst (.cons (.int 1) (.cons (.neg (.int 3)) (.cons (.bin .Pow (.int 10) (.int 9)) .nil)))) .nil)))) (.cons (.asg (.nm 3) (.tup (.cons (.tup (.cons (.var 1) .nil)) (.cons (.tup (.cons (.tup (.cons (.tup (.cons (.tup (.cons (.int 1) (.cons (.int 1) .nil))) .nil)) .nil)) (.cons (.tup (.cons (.tup (.cons (.tup (.cons (.int 1) (.cons (.int 1) .nil))) .nil)) .nil)) .nil))) (.cons (.tup (.cons (.int 1) .nil)) (.cons (.tup (.cons (.tup (.cons (.var 2) (.cons (.int 1) .nil))) .nil)) .nil)))))) (.cons (.asg (.nm 4) (.tup (.cons (.tup (.cons (.var 1) .nil)) (.cons (.tup (.cons (.tup (.cons (.tup (.cons (.tup (.cons (.int 1) (.cons (.int 1) .nil))) .nil)) .nil)) (.cons (.tup (.cons (.tup (.cons (.tup (.cons (.int 0) (.cons (.int 1) .nil))) .nil)) .nil)) .nil))) (.cons (.tup (.cons (.int 1) .nil)) (.cons (.tup (.cons (.tup (.cons (.var 2) (.cons (.int 1) .nil))) .nil)) .nil)))))) (.cons (.asg (.nm 5) (.bin .Add (.slice (.var 4) .no (.ex (.int 3))) (.tup (.cons (.tup (.cons (.tup (.cons (.int 0) (.cons (.int 1) .nil))) .nil)) .nil)))) (.cons (.asg (.tp (.cons (.nm 7) (.cons (.nm 8) (.cons (.nm 9) .nil)))) (.tup (.cons (.tup (.cons (.tup (.cons (.int 0) .nil)) .nil)) (.cons (.tup (.cons (.tup (.cons (.int 1) .nil)) .nil)) (.cons (.tup (.cons (.tup (.cons (.int 1) (.cons (.int 1) .nil))) .nil)) .nil))))) (.cons (.asg (.nm 6) (.lst (.cons (.call 28 (.cons (.tup (.cons (.str "same") (.cons (.var 3) (.cons (.var 3) .nil)))) (.cons (.tup (.cons (.var 7) (.cons (.tup (.cons (.tup (.cons (.var 9) (.cons (.var 9) .nil))) .nil)) .nil))) .nil))) .nil))) (.cons (.asg (.nm 6) (.bin .Add (.var 6) (.lst (.cons (.call 28 (.cons (.tup (.cons (.str "same") (.cons (.var 3) (.cons (.var 3) .nil)))) (.cons (.tup (.cons (.var 8) (.cons (.tup (.cons (.tup (.cons (.var 9) (.cons (.var 9) .nil))) .nil)) .nil))) .nil))) .nil)))) (.cons (.asg (.nm 6) (.bin .Add (.var 6) (.lst (.cons (.call 28 (.cons (.tup (.cons (.str "same") (.cons (.var 4) (.cons (.var 5) .nil)))) (.cons (.tup (.cons (.var 8) (.cons (.tup (.cons (.tup (.cons (.var 9) (.cons (.var 9) .nil))) .nil)) .nil))) .nil))) .nil)))) (.cons (.asg (.nm 6) (.bin .Add (.var 6) (.lst (.cons (.call 28 (.cons (.tup (.cons (.str "relation") (.cons (.tup (.cons (.var 4) .nil)) (.cons (.tup (.cons (.int 1) .nil)) .nil)))) (.cons (.tup (.cons (.var 8) (.cons (.tup (.cons (.tup (.cons (.var 9) (.cons (.var 9) .nil))) .nil)) .nil))) .nil))) .nil)))) (.cons (.ret (.cmp .Eq (.var 6) (.lst (.cons (.bl true) (.cons (.bl false) (.cons (.bl false) (.cons (.bl false) .nil))))))) .nil))))))))))
def b_law_swapped : Ss := (.cons (.ret (.bin .Add (.bin .Add (.slice (.var 0) .no (.ex (.var 1))) (.tup (.cons (.sub (.var 0) (.bin .Add (.var 1) (.int 1))) (.cons (.sub (.var 0) (.var 1)) .nil)))) (.slice (.var 0) (.ex (.bin .Add (.var 1) (.int 2))) .no))) .nil)
def b_law_doubled : Ss := (.cons (.ret (.bin .Add (.bin .Add (.slice (.var 0) .no (.ex (.bin .Add (.var 1) (.int 1)))) (.tup (.cons (.var 2) .nil))) (.slice (.var 0) (.ex (.bin .Add (.var 1) (.int 1))) .no))) .nil)
def b_law_order_right : Ss := (.cons (.asg (.tp (.cons (.nm 7) (.cons (.nm 8) .nil))) (.call 56 (.cons (.lst (.cons (.int 0) (.cons (.int 1) (.cons (.int 2) (.cons (.int 3) .nil))))) (.cons .non .nil)))) (.cons (.asg (.tp (.cons (.nm 9) (.cons (.nm 10) .nil))) (.tup (.cons (.bin .Add (.int 1) (.call 38 (.cons (.var 0) (.cons (.int 2) .nil)))) (.cons (.tup (.cons (.str "same") (.cons (.var 1) (.cons (.var 1) .nil)))) .nil)))) (.cons (.asg (.nm 2) (.bi .tuple (.cons (.lc (.nm 11) .seq (.cons (.var 8) .nil) .nil (.bi .tuple (.cons (.lc (.nm 12) .seq (.cons (.var 11) .nil) .nil (.call 63 (.cons (.var 12) (.cons (.var 9) .nil))) [12]) .nil)) [11]) .nil))) (.cons (.asg (.nm 3) (.call 38 (.cons (.var 0) (.cons (.int 4) .nil)))) (.cons (.asg (.nm 4) (.bi .tuple (.cons (.lc (.nm 11) .seq (.cons (.var 8) .nil) .nil (.bi .tuple (.cons (.lc (.nm 12) .seq (.cons (.var 11) .nil) .nil (.call 64 (.cons (.var 12) (.cons (.var 3) (.cons (.tup (.cons (.int 0) (.cons (.int 1) .nil))) .nil)))) [12]) .nil)) [11]) .nil))) (.cons (.asg (.nm 5) (.lst (.cons (.call 28 (.cons (.var 10) (.cons (.tup (.cons (.var 7) (.cons (.var 8) .nil))) .nil))) (.cons (.call 28 (.cons (.var 10) (.cons (.tup (.cons (.call 63 (.cons (.var 7) (.cons (.var 9) .nil))) (.cons (.call 63 (.cons (.var 2) (.cons (.var 9) .nil))) .nil))) .nil))) .nil)))) (.cons (.asg (.nm 6) (.tup (.cons (.call 64 (.cons (.var 7) (.cons (.var 3) (.cons (.sub (.var 7) (.var 3)) .nil)))) (.cons (.call 64 (.cons (.var 4) (.cons (.var 3) (.cons (.sub (.var 4) (.var 3)) .nil)))) .nil)))) (.cons (.ret (.cmp .Eq (.bin .Add (.var 5) (.lst (.cons (.call 28 (.cons (.var 10) (.cons (.var 6) .nil))) .nil))) (.lst (.cons (.bl true) (.cons (.bl false) (.cons (.bl false) .nil)))))) .nil))))))))
def b_law_kinds_right : Ss := (.cons (.asg (.tp (.cons (.tp (.cons (.nm 10) (.cons (.nm 11) .nil))) (.cons (.nm 4) .nil))) (.tup (.cons (.call 56 (.cons (.lst (.cons (.int 0) (.cons (.int 1) (.cons (.int 2) (.cons (.int 3) .nil))))) (.cons .non .nil))) (.cons (.tup (.cons (.str "same") (.cons (.var 1) (.cons (.var 1) .nil)))) .nil)))) (.cons (.asg (.tp (.cons (.nm 5) (.cons (.nm 6) .nil))) (.tup (.cons (.call 38 (.cons (.var 0) (.cons (.int 4) .nil))) (.cons (.call 38 (.cons (.var 0) (.cons (.int 2) .nil))) .nil)))) (.cons (.asg (.tp (.cons (.nm 7) (.cons (.nm 8) (.cons (.nm 9) .nil)))) (.tup (.cons (.sub (.var 11) (.var 5)) (.cons (.sub (.sub (.var 11) (.var 5)) (.var 6)) (.cons (.sub (.sub (.var 10) (.var 5)) (.int 0)) .nil))))) (.cons (.asgOwn 2 (.lc (.nm 3) .seq (.cons (.lst (.cons (.tup (.cons (.bl true) .nil)) (.cons (.lst (.cons (.int 1) .nil)) (.cons (.tup (.cons (.int 1) (.cons (.int 0) .nil))) (.cons (.tup (.cons (.neg (.int 1)) .nil)) (.cons .non (.cons (.int 1) (.cons (.tup (.cons (.str "1") .nil)) (.cons (.tup .nil) .nil))))))))) .nil) .nil (.tup (.cons (.call 55 (.cons (.var 10) (.cons (.int 1) (.cons (.var 3) .nil)))) (.cons (.var 11) .nil))) [3])) (.cons (.asgOwn 2 (.bin .Add (.own 2) (.lst (.cons (.tup (.cons (.call 55 (.cons (.var 10) (.cons (.int 0) (.cons (.tup (.cons (.bl false) .nil)) .nil)))) (.cons (.var 11) .nil))) (.cons (.tup (.cons (.var 10) (.cons (.bin .Add (.var 11) (.slice (.var 11) (.ex (.neg (.int 1))) .no)) .nil))) .nil))))) (.cons (.app 2 (.tup (.cons (.var 10) (.cons (.call 55 (.cons (.var 11) (.cons (.var 5) (.cons .non .nil)))) .nil)))) (.cons (.loop (.nm 3) .seq (.cons (.lst (.cons (.bin .Add (.var 7) (.slice (.var 7) (.ex (.neg (.int 1))) .no)) (.cons (.slice (.var 7) .no (.ex (.int 1))) (.cons (.bi .list (.cons (.var 7) .nil)) (.cons (.bin .Add (.var 7) (.tup (.cons .non .nil))) (.cons (.tup .nil) .nil)))))) .nil) (.cons (.app 2 (.tup (.cons (.var 10) (.cons (.call 55 (.cons (.var 11) (.cons (.var 5) (.cons (.var 3) .nil)))) .nil)))) .nil)) (.cons (.loop (.nm 3) .seq (.cons (.lst (.cons (.bi .list (.cons (.var 8) .nil)) (.cons (.bin .Add (.var 8) (.tup (.cons (.tup (.cons (.int 0) (.cons (.int 1) .nil))) .nil))) (.cons (.slice (.var 8) .no (.ex (.neg (.int 1)))) (.cons (.tup .nil) (.cons (.call 55 (.cons (.var 8) (.cons (.var 6) (.cons (.lst (.cons (.int 0) (.cons (.int 1) .nil))) .nil)))) .nil)))))) .nil) (.cons (.app 2 (.tup (.cons (.var 10) (.cons (.call 55 (.cons (.var 11) (.cons (.var 5) (.cons (.call 55 (.cons (.var 7) (.cons (.var 6) (.cons (.var 3) .nil)))) .nil)))) .nil)))) .nil)) (.cons (.asgOwn 2 (.bin .Add (.own 2) (.lst (.cons (.tup (.cons (.tup .nil) (.cons (.tup .nil) .nil))) (.cons (.tup (.cons (.call 55 (.cons (.var 10) (.cons (.var 5) (.cons (.tup (.cons (.var 9) (.cons (.var 9) .nil))) .nil)))) (.cons (.var 11) .nil))) .nil))))) (.cons (.ret (.and (.not (.bi .any (.cons (.lc (.nm 12) .seq (.cons (.own 2) .nil) .nil (.call 28 (.cons (.var 4) (.cons (.var 12) .nil))) [12]) .nil))) (.not (.call 28 (.cons (.tup (.cons (.str "relation") (.cons (.tup (.cons (.var 1) .nil)) (.cons (.tup (.cons (.int 0) .nil)) .nil)))) (.cons (.tup (.cons (.tup .nil) (.cons (.tup .nil) .nil))) .nil)))))) .nil))))))))))
def b_law_false_right : Ss := (.cons (.asg (.nm 1) (.tup (.cons (.tup (.cons (.var 0) .nil)) (.cons (.tup (.cons (.tup .nil) (.cons (.tup .nil) .nil))) (.cons (.tup .nil) (.cons (.tup .nil) .nil)))))) (.cons (.asg (.tp (.cons (.nm 3) (.cons (.nm 4) .nil))) (.tup (.cons (.tup (.cons (.tup (.cons (.tup (.cons (.int 2) (.cons (.int 1) .nil))) (.cons (.tup (.cons (.int 0) (.cons (.int 1) .nil))) .nil))) (.cons (.tup (.cons (.tup (.cons (.int 0) (.cons (.int 1) .nil))) (.cons (.tup (.cons (.int 1) (.cons (.int 1) .nil))) .nil))) .nil))) (.cons (.tup (.cons (.tup (.cons (.tup (.cons (.int 2) (.cons (.int 1) .nil))) (.cons (.tup (.cons (.int 1) (.cons (.int 1) .nil))) .nil))) (.cons (.tup (.cons (.tup (.cons (.int 0) (.cons (.int 1) .nil))) (.cons (.tup (.cons (.int 1) (.cons (.int 1) .nil))) .nil))) .nil))) .nil)))) (.cons (.asg (.nm 2) (.tup (.cons (.tup (.cons (.var 0) .nil)) (.cons (.tup (.cons (.var 3) (.cons (.var 4) .nil))) (.cons (.tup (.cons (.int 0) (.cons (.int 1) .nil))) (.cons (.tup (.cons (.tup (.cons (.int 1) (.cons (.int 1) .nil))) (.cons (.tup (.cons (.int 0) (.cons (.int 1) .nil))) .nil))) .nil)))))) (.cons (.ret (.cmp .Is (.call 28 (.cons (.tup (.cons (.str "same") (.cons (.var 1) (.cons (.var 2) .nil)))) (.cons (.tup (.cons (.tup (.cons (.tup (.cons (.int 0) .nil)) .nil)) (.cons (.tup (.cons (.tup (.cons (.tup (.cons (.tup (.cons (.int 1) (.cons (.int 1) .nil))) .nil)) .nil)) .nil)) .nil))) .nil))) (.bl false))) .nil))))
def b_law_right : Ss := (.cons (.asg (.tp (.cons (.nm 3) (.cons (.nm 4) .nil))) (.call 41 (.cons (.var 0) .nil))) (.cons (.asg (.nm 1) (.call 49 (.cons (.var 0) .nil))) (.cons (.asg (.nm 2) (.call 48 (.cons (.var 0) (.cons (.lst (.cons (.var 3) .nil)) (.cons (.var 1) .nil))))) (.cons (.ite (.or (.not (.call 58 (.cons (.var 0) (.cons (.var 2) .nil)))) (.not (.call 59 (.cons (.var 0) (.cons (.var 3) (.cons (.var 1) .nil)))))) (.cons (.ret (.bl false)) .nil) .nil) (.cons (.ite (.or (.not (.call 65 (.cons (.var 0) (.cons (.var 2) .nil)))) (.or (.not (.call 66 (.cons (.var 0) (.cons (.var 2) .nil)))) (.not (.call 67 (.cons (.var 3) .nil))))) (.cons (.ret (.bl false)) .nil) .nil) (.cons (.ret (.and (.call 61 (.cons (.var 0) (.cons (.var 3) .nil))) (.call 62 (.cons (.var 0) (.cons (.var 4) .nil))))) .nil))))))
def b_law : Ss := (.cons (.ret (.bi .all (.cons (.lc (.nm 1) .range1 (.cons (.bi .max2 (.cons (.int 2) (.cons (.bi .min2 (.cons (.int 4) (.cons (.bi .len (.cons (.var 0) .nil)) .nil))) .nil))) .nil) .nil (.call 68 (.cons (.call 37 (.cons (.call 36 (.cons (.var 0) (.cons (.var 1) .nil))) .nil)) .nil)) [1]) .nil))) .nil)
def top (i : Nat) : Stmt := PySem.Challenge.pw_bitcounts_k88_clauses_of_the_checker_alo.main.body.getD i (.Pass ⟨0, 0, 0, 0⟩)
def frs : List Fr := [⟨"is_whole", top 6, ["value"], 1, b_is_whole⟩,
  ⟨"is_word", top 7, ["value", "sign"], 1, b_is_word⟩,
  ⟨"are_names", top 8, ["value", "index", "name"], 1, b_are_names⟩,
  ⟨"shared", top 9, ["one", "other", "high", "low"], 2, b_shared⟩,
  ⟨"is_fraction", top 10, ["value"], 1, b_is_fraction⟩,
  ⟨"is_row", top 11, ["value", "wide", "each"], 2, b_is_row⟩,
  ⟨"is_side", top 12, ["value", "wide", "each"], 2, b_is_side⟩,
  ⟨"rows_for", top 13, ["many", "found", "turn", "row", "digit"], 1, b_rows_for⟩,
  ⟨"is_plain_rule", top 14, ["value", "names", "sides", "firsts", "told", "number", "side"], 1, b_is_plain_rule⟩,
  ⟨"begun", top 15, ["firsts", "number"], 1, b_begun⟩,
  ⟨"added", top 16, ["row", "values", "top", "bottom", "one", "under", "other", "below", "common"], 2, b_added⟩,
  ⟨"applied", top 17, ["side", "values", "row"], 2, b_applied⟩,
  ⟨"place_of", top 18, ["name", "names", "place"], 2, b_place_of⟩,
  ⟨"index_of", top 19, ["digits", "found", "digit"], 1, b_index_of⟩,
  ⟨"digits_at", top 20, ["numbers", "place", "number"], 2, b_digits_at⟩,
  ⟨"length_of", top 21, ["numbers", "found", "number"], 1, b_length_of⟩,
  ⟨"values_at", top 22, ["rule", "names", "numbers", "own", "found", "place", "name"], 3, b_values_at⟩,
  ⟨"told_at", top 23, ["rule", "names", "numbers"], 3, b_told_at⟩,
  ⟨"all_values_at", top 24, ["rules", "names", "numbers", "found", "rule"], 3, b_all_values_at⟩,
  ⟨"names_of", top 25, ["tuples", "found", "names", "name"], 1, b_names_of⟩,
  ⟨"are_rules", top 26, ["rules", "rule"], 1, b_are_rules⟩,
  ⟨"is_ahead", top 38, ["one", "other", "first", "second"], 2, b_is_ahead⟩,
  ⟨"is_point", top 39, ["value", "many", "number"], 2, b_is_point⟩,
  ⟨"are_points", top 40, ["value", "many", "index", "point"], 2, b_are_points⟩,
  ⟨"begins", top 41, ["points", "rules", "zeros", "end", "rule", "number"], 4, b_begins⟩,
  ⟨"is_made", top 42, ["row", "points", "columns", "target", "due", "share", "point", "line", "column"], 5, b_is_made⟩,
  ⟨"has_rows", top 43, ["row", "point", "points", "columns", "rules", "names", "end", "steps", "share", "step", "target", "number", "digit"], 7, b_has_rows⟩,
  ⟨"is_span", top 44, ["value", "rules", "names", "end", "columns", "points", "rows", "row", "point"], 4, b_is_span⟩,
  ⟨"accepts", top 49, ["claim", "certificate"], 2, b_accepts⟩,
  ⟨"is_empty", top 50, ["value"], 1, b_is_empty⟩,
  ⟨"is_number_of", top 51, ["value", "name"], 2, b_is_number_of⟩,
  ⟨"are_numbers", top 52, ["value", "names", "pair", "name"], 2, b_are_numbers⟩,
  ⟨"are_alike", top 53, ["rules", "names", "numbers"], 3, b_are_alike⟩,
  ⟨"are_rules_so", top 54, ["claim", "certificate", "rules", "names", "end", "rule", "point", "name", "number"], 2, b_are_rules_so⟩,
  ⟨"is_zero_at", top 55, ["rules", "factors", "names", "numbers", "values", "rule", "factor"], 4, b_is_zero_at⟩,
  ⟨"is_relation", top 56, ["rules", "factors", "certificate", "names", "rule", "point", "one"], 3, b_is_relation⟩,
  ⟨"_law_cell", top 59, ["_law_script", "_law_k", "_law_found", "_law_cell_here"], 2, b_law_cell⟩,
  ⟨"_law_purse", top 60, ["_law_cell_here", "_law_digits"], 1, b_law_purse⟩,
  ⟨"_law_draw", top 61, ["_law_purse_here", "_law_many", "_law_state", "_law_digit"], 2, b_law_draw⟩,
  ⟨"_law_one_of", top 62, ["_law_purse_here", "_law_things"], 2, b_law_one_of⟩,
  ⟨"_law_name", top 63, ["_law_purse_here", "_law_found", "_law_turn"], 1, b_law_name⟩,
  ⟨"_law_two_names", top 64, ["_law_purse_here", "_law_first", "_law_second"], 1, b_law_two_names⟩,
  ⟨"_law_divisor", top 65, ["_law_one", "_law_other", "_law_high", "_law_low"], 2, b_law_divisor⟩,
  ⟨"_law_fraction", top 66, ["_law_top", "_law_bottom", "_law_common", "_law_sign"], 2, b_law_fraction⟩,
  ⟨"_law_steps", top 67, ["_law_many"], 1, b_law_steps⟩,
  ⟨"_law_table", top 68, ["_law_step", "_law_both"], 1, b_law_table⟩,
  ⟨"_law_worths", top 69, ["_law_point", "_law_number", "_law_many", "_law_power"], 1, b_law_worths⟩,
  ⟨"_law_shares", top 70, ["_law_point", "_law_rows", "_law_worths_here", "_law_spot", "_law_at"], 1, b_law_shares⟩,
  ⟨"_law_rule", top 71, ["_law_purse_here", "_law_names", "_law_factors_here", "_law_order", "_law_scale", "_law_sides", "_law_step", "_law_start", "_law_firsts", "_law_told", "_law_at", "_law_spot", "_law_table_here", "_law_side", "_law_row"], 3, b_law_rule⟩,
  ⟨"_law_factors", top 72, ["_law_purse_here", "_law_turn"], 1, b_law_factors⟩,
  ⟨"is_whole", top 6, ["value"], 1, b_is_whole⟩,
  ⟨"is_whole", top 6, ["value"], 1, b_is_whole⟩,
  ⟨"is_whole", top 6, ["value"], 1, b_is_whole⟩,
  ⟨"is_whole", top 6, ["value"], 1, b_is_whole⟩,
  ⟨"_law_so", top 73, ["_law_thing", "_law_due"], 2, b_law_so⟩,
  ⟨"_law_put", top 74, ["_law_things", "_law_at", "_law_thing"], 3, b_law_put⟩,
  ⟨"_law_paper", top 75, ["_law_numbers", "_law_end", "_law_rows", "_law_number", "_law_row", "_law_target", "_law_parts", "_law_late", "_law_at"], 2, b_law_paper⟩,
  ⟨"_law_with_share", top 76, ["_law_paper_here", "_law_at", "_law_spot", "_law_share"], 4, b_law_with_share⟩,
  ⟨"_law_behind_right", top 77, ["_law_purse_here", "_law_rule_here", "_law_turn", "_law_paper_here", "_law_stated", "_law_share", "_law_due", "_law_at", "_law_spot", "_law_top", "_law_bottom", "_law_factor", "_law_high", "_law_low", "_law_other"], 2, b_law_behind_right⟩,
  ⟨"_law_parting_right", top 78, ["_law_purse_here", "_law_name_here", "_law_one", "_law_times", "_law_other", "_law_right_here", "_law_at", "_law_wrong", "_law_told", "_law_first", "_law_second", "_law_stated", "_law_paper_here", "_law_part", "_law_step"], 3, b_law_parting_right⟩,
  ⟨"_law_slow_rule", top 79, ["_law_name_here", "_law_factors_here", "_law_odd", "_law_one", "_law_two", "_law_three", "_law_factor"], 2, b_law_slow_rule⟩,
  ⟨"_law_slow_right", top 80, ["_law_purse_here", "_law_name_here", "_law_first", "_law_second", "_law_half", "_law_told", "_law_a", "_law_b", "_law_c", "_law_times", "_law_zero", "_law_one", "_law_two", "_law_early", "_law_later", "_law_paper_here", "_law_turn"], 2, b_law_slow_right⟩,
  ⟨"_law_zeros_right", top 81, ["_law_purse_here", "_law_name_here", "_law_times", "_law_flat", "_law_single", "_law_never", "_law_told", "_law_here", "_law_there", "_law_share"], 2, b_law_zeros_right⟩,
  ⟨"_law_swapped", top 82, ["_law_things", "_law_at"], 2, b_law_swapped⟩,
  ⟨"_law_doubled", top 83, ["_law_things", "_law_at", "_law_thing"], 3, b_law_doubled⟩,
  ⟨"_law_order_right", top 84, ["_law_purse_here", "_law_rule_here", "_law_turned", "_law_spot", "_law_more", "_law_told", "_law_twice", "_law_points", "_law_rows", "_law_at", "_law_stated", "_law_row", "_law_share"], 2, b_law_order_right⟩,
  ⟨"_law_kinds_right", top 85, ["_law_purse_here", "_law_rule_here", "_law_some", "_law_each", "_law_stated", "_law_at", "_law_spot", "_law_row", "_law_share", "_law_number", "_law_points", "_law_rows", "_law_paper_here"], 2, b_law_kinds_right⟩,
  ⟨"_law_false_right", top 86, ["_law_name_here", "_law_nothing", "_law_itself", "_law_low", "_law_high"], 1, b_law_false_right⟩,
  ⟨"_law_right", top 87, ["_law_purse_here", "_law_one", "_law_rule_here", "_law_first", "_law_second"], 1, b_law_right⟩,
  ⟨"law", top 88, ["_law_script", "_law_k"], 1, b_law⟩]
def ms : Ms := ⟨fnsOf frs, ["abs", "all", "any", "bool", "divmod", "int", "isinstance", "len", "list", "max", "min", "range", "sorted", "str", "sum", "tuple", "zip"], [("GREATEST", (.int 10000000000000000000000000000000000000000000000000000000000000000000000000000000000000000000000000000)), ("LETTERS", (.str "abcdefghijklmnopqrstuvwxyz")), ("LINES", (.int 100)), ("LONGEST", (.int 8)), ("MOST", (.int 6)), ("NAMES", (.int 3)), ("POINTS", (.int 200))], ["LENGTHS"], parsOf frs⟩
def tab (x : Str) : List (Str × D) := if x == ("LENGTHS" : Str) then [("same", (.int 3)), ("apart", (.int 4)), ("parting", (.int 4)), ("relation", (.int 3)), ("within", (.int 3)), ("outside", (.int 4))] else []
theorem check : (frs.all (frOk ms)) = true := by kernel_rfl
end CK

set_option linter.all false
set_option autoImplicit false
set_option maxRecDepth 100000
set_option maxHeartbeats 0
namespace CK
open PySem PySem.Spec L2 Bc
abbrev pg : Pg := pgOf frs tab
abbrev cl (w k : Nat) : Cl := ⟨callF pg w k, pg.init, pg.tab⟩
theorem call_is_whole (w k : Nat) (x0 : D) : callF pg w (k + 1) 0 [x0] = (evSs (cl w k) w b_is_whole [.val x0]).bind retOf := by kernel_rfl
theorem call_is_word (w k : Nat) (x0 : D) : callF pg w (k + 1) 1 [x0] = (evSs (cl w k) w b_is_word [.val x0, .un]).bind retOf := by kernel_rfl
theorem call_are_names (w k : Nat) (x0 : D) : callF pg w (k + 1) 2 [x0] = (evSs (cl w k) w b_are_names [.val x0, .un, .un]).bind retOf := by kernel_rfl
theorem call_shared (w k : Nat) (x0 x1 : D) : callF pg w (k + 1) 3 [x0, x1] = (evSs (cl w k) w b_shared [.val x0, .val x1, .un, .un]).bind retOf := by kernel_rfl
theorem call_is_fraction (w k : Nat) (x0 : D) : callF pg w (k + 1) 4 [x0] = (evSs (cl w k) w b_is_fraction [.val x0]).bind retOf := by kernel_rfl
theorem call_is_row (w k : Nat) (x0 x1 : D) : callF pg w (k + 1) 5 [x0, x1] = (evSs (cl w k) w b_is_row [.val x0, .val x1, .un]).bind retOf := by kernel_rfl
theorem call_is_side (w k : Nat) (x0 x1 : D) : callF pg w (k + 1) 6 [x0, x1] = (evSs (cl w k) w b_is_side [.val x0, .val x1, .un]).bind retOf := by kernel_rfl
theorem call_rows_for (w k : Nat) (x0 : D) : callF pg w (k + 1) 7 [x0] = (evSs (cl w k) w b_rows_for [.val x0, .un, .un, .un, .un]).bind retOf := by kernel_rfl
theorem call_is_plain_rule (w k : Nat) (x0 : D) : callF pg w (k + 1) 8 [x0] = (evSs (cl w k) w b_is_plain_rule [.val x0, .un, .un, .un, .un, .un, .un]).bind retOf := by kernel_rfl
theorem call_begun (w k : Nat) (x0 : D) : callF pg w (k + 1) 9 [x0] = (evSs (cl w k) w b_begun [.val x0, .un]).bind retOf := by kernel_rfl
theorem call_added (w k : Nat) (x0 x1 : D) : callF pg w (k + 1) 10 [x0, x1] = (evSs (cl w k) w b_added [.val x0, .val x1, .un, .un, .un, .un, .un, .un, .un]).bind retOf := by kernel_rfl
theorem call_applied (w k : Nat) (x0 x1 : D) : callF pg w (k + 1) 11 [x0, x1] = (evSs (cl w k) w b_applied [.val x0, .val x1, .un]).bind retOf := by kernel_rfl
theorem call_place_of (w k : Nat) (x0 x1 : D) : callF pg w (k + 1) 12 [x0, x1] = (evSs (cl w k) w b_place_of [.val x0, .val x1, .un]).bind retOf := by kernel_rfl
theorem call_index_of (w k : Nat) (x0 : D) : callF pg w (k + 1) 13 [x0] = (evSs (cl w k) w b_index_of [.val x0, .un, .un]).bind retOf := by kernel_rfl
theorem call_digits_at (w k : Nat) (x0 x1 : D) : callF pg w (k + 1) 14 [x0, x1] = (evSs (cl w k) w b_digits_at [.val x0, .val x1, .un]).bind retOf := by kernel_rfl
theorem call_length_of (w k : Nat) (x0 : D) : callF pg w (k + 1) 15 [x0] = (evSs (cl w k) w b_length_of [.val x0, .un, .un]).bind retOf := by kernel_rfl
theorem call_values_at (w k : Nat) (x0 x1 x2 : D) : callF pg w (k + 1) 16 [x0, x1, x2] = (evSs (cl w k) w b_values_at [.val x0, .val x1, .val x2, .un, .un, .un, .un]).bind retOf := by kernel_rfl
theorem call_told_at (w k : Nat) (x0 x1 x2 : D) : callF pg w (k + 1) 17 [x0, x1, x2] = (evSs (cl w k) w b_told_at [.val x0, .val x1, .val x2]).bind retOf := by kernel_rfl
theorem call_all_values_at (w k : Nat) (x0 x1 x2 : D) : callF pg w (k + 1) 18 [x0, x1, x2] = (evSs (cl w k) w b_all_values_at [.val x0, .val x1, .val x2, .un, .un]).bind retOf := by kernel_rfl
theorem call_names_of (w k : Nat) (x0 : D) : callF pg w (k + 1) 19 [x0] = (evSs (cl w k) w b_names_of [.val x0, .un, .un, .un]).bind retOf := by kernel_rfl
theorem call_are_rules (w k : Nat) (x0 : D) : callF pg w (k + 1) 20 [x0] = (evSs (cl w k) w b_are_rules [.val x0, .un]).bind retOf := by kernel_rfl
theorem call_is_ahead (w k : Nat) (x0 x1 : D) : callF pg w (k + 1) 21 [x0, x1] = (evSs (cl w k) w b_is_ahead [.val x0, .val x1, .un, .un]).bind retOf := by kernel_rfl
theorem call_is_point (w k : Nat) (x0 x1 : D) : callF pg w (k + 1) 22 [x0, x1] = (evSs (cl w k) w b_is_point [.val x0, .val x1, .un]).bind retOf := by kernel_rfl
theorem call_are_points (w k : Nat) (x0 x1 : D) : callF pg w (k + 1) 23 [x0, x1] = (evSs (cl w k) w b_are_points [.val x0, .val x1, .un, .un]).bind retOf := by kernel_rfl
theorem call_begins (w k : Nat) (x0 x1 x2 x3 : D) : callF pg w (k + 1) 24 [x0, x1, x2, x3] = (evSs (cl w k) w b_begins [.val x0, .val x1, .val x2, .val x3, .un, .un]).bind retOf := by kernel_rfl
theorem call_is_made (w k : Nat) (x0 x1 x2 x3 x4 : D) : callF pg w (k + 1) 25 [x0, x1, x2, x3, x4] = (evSs (cl w k) w b_is_made [.val x0, .val x1, .val x2, .val x3, .val x4, .un, .un, .un, .un]).bind retOf := by kernel_rfl
theorem call_has_rows (w k : Nat) (x0 x1 x2 x3 x4 x5 x6 : D) : callF pg w (k + 1) 26 [x0, x1, x2, x3, x4, x5, x6] = (evSs (cl w k) w b_has_rows [.val x0, .val x1, .val x2, .val x3, .val x4, .val x5, .val x6, .un, .un, .un, .un, .un, .un]).bind retOf := by kernel_rfl
theorem call_is_span (w k : Nat) (x0 x1 x2 x3 : D) : callF pg w (k + 1) 27 [x0, x1, x2, x3] = (evSs (cl w k) w b_is_span [.val x0, .val x1, .val x2, .val x3, .un, .un, .un, .un, .un]).bind retOf := by kernel_rfl
theorem call_accepts (w k : Nat) (x0 x1 : D) : callF pg w (k + 1) 28 [x0, x1] = (evSs (cl w k) w b_accepts [.val x0, .val x1]).bind retOf := by kernel_rfl
theorem call_is_empty (w k : Nat) (x0 : D) : callF pg w (k + 1) 29 [x0] = (evSs (cl w k) w b_is_empty [.val x0]).bind retOf := by kernel_rfl
theorem call_is_number_of (w k : Nat) (x0 x1 : D) : callF pg w (k + 1) 30 [x0, x1] = (evSs (cl w k) w b_is_number_of [.val x0, .val x1]).bind retOf := by kernel_rfl
theorem call_are_numbers (w k : Nat) (x0 x1 : D) : callF pg w (k + 1) 31 [x0, x1] = (evSs (cl w k) w b_are_numbers [.val x0, .val x1, .un, .un]).bind retOf := by kernel_rfl
theorem call_are_alike (w k : Nat) (x0 x1 x2 : D) : callF pg w (k + 1) 32 [x0, x1, x2] = (evSs (cl w k) w b_are_alike [.val x0, .val x1, .val x2]).bind retOf := by kernel_rfl
theorem call_are_rules_so (w k : Nat) (x0 x1 : D) : callF pg w (k + 1) 33 [x0, x1] = (evSs (cl w k) w b_are_rules_so [.val x0, .val x1, .un, .un, .un, .un, .un, .un, .un]).bind retOf := by kernel_rfl
theorem call_is_zero_at (w k : Nat) (x0 x1 x2 x3 : D) : callF pg w (k + 1) 34 [x0, x1, x2, x3] = (evSs (cl w k) w b_is_zero_at [.val x0, .val x1, .val x2, .val x3, .un, .un, .un]).bind retOf := by kernel_rfl
theorem call_is_relation (w k : Nat) (x0 x1 x2 : D) : callF pg w (k + 1) 35 [x0, x1, x2] = (evSs (cl w k) w b_is_relation [.val x0, .val x1, .val x2, .un, .un, .un, .un]).bind retOf := by kernel_rfl
theorem call_law_cell (w k : Nat) (x0 x1 : D) : callF pg w (k + 1) 36 [x0, x1] = (evSs (cl w k) w b_law_cell [.val x0, .val x1, .un, .un]).bind retOf := by kernel_rfl
theorem call_law_purse (w k : Nat) (x0 : D) : callF pg w (k + 1) 37 [x0] = (evSs (cl w k) w b_law_purse [.val x0, .un]).bind retOf := by kernel_rfl
theorem call_law_draw (w k : Nat) (x0 x1 : D) : callF pg w (k + 1) 38 [x0, x1] = (evSs (cl w k) w b_law_draw [.val x0, .val x1, .un, .un]).bind retOf := by kernel_rfl
theorem call_law_one_of (w k : Nat) (x0 x1 : D) : callF pg w (k + 1) 39 [x0, x1] = (evSs (cl w k) w b_law_one_of [.val x0, .val x1]).bind retOf := by kernel_rfl
theorem call_law_name (w k : Nat) (x0 : D) : callF pg w (k + 1) 40 [x0] = (evSs (cl w k) w b_law_name [.val x0, .un, .un]).bind retOf := by kernel_rfl
theorem call_law_two_names (w k : Nat) (x0 : D) : callF pg w (k + 1) 41 [x0] = (evSs (cl w k) w b_law_two_names [.val x0, .un, .un]).bind retOf := by kernel_rfl
theorem call_law_divisor (w k : Nat) (x0 x1 : D) : callF pg w (k + 1) 42 [x0, x1] = (evSs (cl w k) w b_law_divisor [.val x0, .val x1, .un, .un]).bind retOf := by kernel_rfl
theorem call_law_fraction (w k : Nat) (x0 x1 : D) : callF pg w (k + 1) 43 [x0, x1] = (evSs (cl w k) w b_law_fraction [.val x0, .val x1, .un, .un]).bind retOf := by kernel_rfl
theorem call_law_steps (w k : Nat) (x0 : D) : callF pg w (k + 1) 44 [x0] = (evSs (cl w k) w b_law_steps [.val x0]).bind retOf := by kernel_rfl
theorem call_law_table (w k : Nat) (x0 : D) : callF pg w (k + 1) 45 [x0] = (evSs (cl w k) w b_law_table [.val x0, .un]).bind retOf := by kernel_rfl
theorem call_law_worths (w k : Nat) (x0 : D) : callF pg w (k + 1) 46 [x0] = (evSs (cl w k) w b_law_worths [.val x0, .un, .un, .un]).bind retOf := by kernel_rfl
theorem call_law_shares (w k : Nat) (x0 : D) : callF pg w (k + 1) 47 [x0] = (evSs (cl w k) w b_law_shares [.val x0, .un, .un, .un, .un]).bind retOf := by kernel_rfl
theorem call_law_rule (w k : Nat) (x0 x1 x2 : D) : callF pg w (k + 1) 48 [x0, x1, x2] = (evSs (cl w k) w b_law_rule [.val x0, .val x1, .val x2, .un, .un, .un, .un, .un, .un, .un, .un, .un, .un, .un, .un]).bind retOf := by kernel_rfl
theorem call_law_factors (w k : Nat) (x0 : D) : callF pg w (k + 1) 49 [x0] = (evSs (cl w k) w b_law_factors [.val x0, .un]).bind retOf := by kernel_rfl
theorem call_law_so (w k : Nat) (x0 x1 : D) : callF pg w (k + 1) 54 [x0, x1] = (evSs (cl w k) w b_law_so [.val x0, .val x1]).bind retOf := by kernel_rfl
theorem call_law_put (w k : Nat) (x0 x1 x2 : D) : callF pg w (k + 1) 55 [x0, x1, x2] = (evSs (cl w k) w b_law_put [.val x0, .val x1, .val x2]).bind retOf := by kernel_rfl
theorem call_law_paper (w k : Nat) (x0 x1 : D) : callF pg w (k + 1) 56 [x0, x1] = (evSs (cl w k) w b_law_paper [.val x0, .val x1, .un, .un, .un, .un, .un, .un, .un]).bind retOf := by kernel_rfl
theorem call_law_with_share (w k : Nat) (x0 x1 x2 x3 : D) : callF pg w (k + 1) 57 [x0, x1, x2, x3] = (evSs (cl w k) w b_law_with_share [.val x0, .val x1, .val x2, .val x3]).bind retOf := by kernel_rfl
theorem call_law_behind_right (w k : Nat) (x0 x1 : D) : callF pg w (k + 1) 58 [x0, x1] = (evSs (cl w k) w b_law_behind_right [.val x0, .val x1, .un, .un, .un, .un, .un, .un, .un, .un, .un, .un, .un, .un, .un]).bind retOf := by kernel_rfl
theorem call_law_parting_right (w k : Nat) (x0 x1 x2 : D) : callF pg w (k + 1) 59 [x0, x1, x2] = (evSs (cl w k) w b_law_parting_right [.val x0, .val x1, .val x2, .un, .un, .un, .un, .un, .un, .un, .un, .un, .un, .un, .un]).bind retOf := by kernel_rfl
theorem call_law_slow_rule (w k : Nat) (x0 x1 : D) : callF pg w (k + 1) 60 [x0, x1] = (evSs (cl w k) w b_law_slow_rule [.val x0, .val x1, .un, .un, .un, .un, .un]).bind retOf := by kernel_rfl
theorem call_law_slow_right (w k : Nat) (x0 x1 : D) : callF pg w (k + 1) 61 [x0, x1] = (evSs (cl w k) w b_law_slow_right [.val x0, .val x1, .un, .un, .un, .un, .un, .un, .un, .un, .un, .un, .un, .un, .un, .un, .un]).bind retOf := by kernel_rfl
theorem call_law_zeros_right (w k : Nat) (x0 x1 : D) : callF pg w (k + 1) 62 [x0, x1] = (evSs (cl w k) w b_law_zeros_right [.val x0, .val x1, .un, .un, .un, .un, .un, .un, .un, .un]).bind retOf := by kernel_rfl
theorem call_law_swapped (w k : Nat) (x0 x1 : D) : callF pg w (k + 1) 63 [x0, x1] = (evSs (cl w k) w b_law_swapped [.val x0, .val x1]).bind retOf := by kernel_rfl
theorem call_law_doubled (w k : Nat) (x0 x1 x2 : D) : callF pg w (k + 1) 64 [x0, x1, x2] = (evSs (cl w k) w b_law_doubled [.val x0, .val x1, .val x2]).bind retOf := by kernel_rfl
theorem call_law_order_right (w k : Nat) (x0 x1 : D) : callF pg w (k + 1) 65 [x0, x1] = (evSs (cl w k) w b_law_order_right [.val x0, .val x1, .un, .un, .un, .un, .un, .un, .un, .un, .un, .un, .un]).bind retOf := by kernel_rfl
theorem call_law_kinds_right (w k : Nat) (x0 x1 : D) : callF pg w (k + 1) 66 [x0, x1] = (evSs (cl w k) w b_law_kinds_right [.val x0, .val x1, .un, .un, .un, .un, .un, .un, .un, .un, .un, .un, .un]).bind retOf := by kernel_rfl
theorem call_law_false_right (w k : Nat) (x0 : D) : callF pg w (k + 1) 67 [x0] = (evSs (cl w k) w b_law_false_right [.val x0, .un, .un, .un, .un]).bind retOf := by kernel_rfl
theorem call_law_right (w k : Nat) (x0 : D) : callF pg w (k + 1) 68 [x0] = (evSs (cl w k) w b_law_right [.val x0, .un, .un, .un, .un]).bind retOf := by kernel_rfl
theorem call_law (w k : Nat) (x0 : D) : callF pg w (k + 1) 69 [x0] = (evSs (cl w k) w b_law [.val x0, .un]).bind retOf := by kernel_rfl
end CK

set_option linter.all false
set_option autoImplicit false
set_option maxRecDepth 100000
set_option maxHeartbeats 1000000
namespace CK
open PySem PySem.Spec L2 Bc
variable {w k : Nat}
/-- greater than any integer here -/
@[irreducible] def BIG : Nat := 2 ^ 5000
theorem BIG_eq : BIG = 2 ^ 5000 := by unfold BIG; rfl
mutual
/-- values that isinstance tells of, all the way down -/
def plain : D → Bool
  | .non => true
  | .bl _ => true
  | .int i => decide (i.natAbs < BIG)
  | .str x => decide (x.length ≤ LINE) && okS x
  | .tup xs => plains xs
  | .lst _ xs => plains xs
  | _ => false
def plains : List D → Bool
  | [] => true
  | x :: xs => plain x && plains xs
end
theorem plains_mem {xs : List D} (h : plains xs = true) : ∀ x ∈ xs, plain x = true := by
  induction xs with
  | nil => intro x hx; cases hx
  | cons y xs ih =>
    unfold plains at h
    rw [Bool.and_eq_true] at h
    intro x hx
    cases hx with
    | head => exact h.1
    | tail _ hx => exact ih h.2 x hx
theorem plains_of {xs : List D} (h : ∀ x ∈ xs, plain x = true) : plains xs = true := by
  induction xs with
  | nil => rfl
  | cons y xs ih =>
    unfold plains
    rw [h y (List.mem_cons_self ..), ih fun x hx => h x (List.mem_cons_of_mem _ hx)]
    rfl
def isW : D → Bool
  | .int _ => true
  | _ => false
theorem s_is_whole {d : D} (h : plain d = true) : callF pg w (k + 1) 0 [d] = M.pure (.bl (isW d)) := by
  rw [call_is_whole]
  cases d <;> first | rfl | (exfalso; revert h; decide) | skip
  all_goals (unfold plain at h; cases h)
def letter (c : Nat) : Bool := decide (c ∈ ("abcdefghijklmnopqrstuvwxyz" : Str).cps.toList)
def isWord : D → Bool
  | .str x => decide (0 < x.length) && decide (x.length ≤ 8) && x.cps.toList.all letter
  | _ => false
theorem inD_letter (c : Nat) : inD (.str ⟨#[c]⟩) (.str (Str.ofString "abcdefghijklmnopqrstuvwxyz")) = some (letter c) := rfl
theorem le8 (n : Nat) : ((n : Int) ≤ 8) ↔ n ≤ 8 := by omega
theorem len_cps (x : Str) : x.length = x.cps.toList.length := rfl
theorem s_is_word {d : D} (h : plain d = true) : callF pg w (k + 1) 1 [d] = M.pure (.bl (isWord d)) := by
  rw [call_is_word]
  cases d with
  | str x =>
    have h : x.length ≤ LINE := of_decide_eq_true (Bool.and_eq_true _ _ ▸ h : _ ∧ _).1
    by_cases h1 : 0 < x.length
    · by_cases h2 : x.length ≤ 8
      · simp [b_is_word, bLen_str h, le8, h1, h2, Bc.wipe]
        rw [mapO_map (g := fun c => .bl (letter c)) fun c _ => by rw [cmpD_in (inD_letter c)]; rfl]
        simp [need_len, show x.cps.size ≤ LINE from h, bAll_map, isWord, h1, h2]
      · simp [b_is_word, bLen_str h, le8, isWord, h1, h2]
    · simp [b_is_word, bLen_str h, isWord, h1]
  | _ => first | rfl | (unfold plain at h; cases h)
def ltS (x y : Str) : Bool := decide (x.cps.toList < y.cps.toList)
def isNames : D → Bool
  | .tup xs => decide (xs.length ≤ 3) && (xs.all isWord && (match asStrs xs with
    | some ss => ascB ltS ss
    | none => false))
  | _ => false
theorem isWord_str {d : D} (h : isWord d = true) : ∃ x, d = .str x := by
  cases d with
  | str x => exact ⟨x, rfl⟩
  | _ => cases h
theorem words_strs {xs : List D} (h : xs.all isWord = true) : ∃ ss : List Str, xs = ss.map .str := by
  induction xs with
  | nil => exact ⟨[], rfl⟩
  | cons x xs ih =>
    rw [List.all_cons, Bool.and_eq_true] at h
    obtain ⟨y, rfl⟩ := isWord_str h.1
    obtain ⟨ss, rfl⟩ := ih h.2
    exact ⟨y :: ss, rfl⟩
theorem s_are_names {d : D} (h : plain d = true) : callF pg w (k + 2) 2 [d] = M.pure (.bl (isNames d)) := by
  rw [call_are_names]
  cases d with
  | tup xs =>
    have h := plains_mem (show plains xs = true from h)
    by_cases h1 : xs.length ≤ 3
    · simp [b_are_names, h1, Bc.wipe, show ¬ (3 : Int) < xs.length by omega]
      rw [mapO_all (g := fun d => .bl (isWord d)) fun d hd => by rw [s_is_word (h d hd)]; rfl]
      cases h2 : xs.all isWord with
      | true =>
        simp [need_len, toLine (show xs.length ≤ 16777216 by omega), bAll_map, h2]
        obtain ⟨ss, rfl⟩ := words_strs h2
        have h3 : isNames (.tup (ss.map .str)) = ascB ltS ss := by
          show (decide ((ss.map D.str).length ≤ 3) && ((ss.map D.str).all isWord && (match asStrs (ss.map .str) with
            | some ss => ascB ltS ss
            | none => false))) = _
          rw [h2, decide_eq_true h1, asStrs_map (fun x => x)]
          simp
        rw [List.length_map] at h1
        rw [h3, List.length_map, itR2_1 (to62 (by omega)), pure_bind']
        rw [mapO_map (g := fun m => .bl (ltO ltS ss[m]? ss[m + 1]?))]
        · simp [need_len, toLine (show ss.length - 1 ≤ 16777216 by omega), bAll_map]
          rw [ascB]
        · intro m hm
          rw [List.mem_range] at hm
          simp
          rw [show (((m : Nat) : Int) + 1) = ((m + 1 : Nat) : Int) by omega, atI_ofNat, atI_ofNat]
          have h4 : m < ss.length := by omega
          have h5 : m + 1 < ss.length := by omega
          simp [h4, h5, ltS, ltO]
      | false => simp [need_len, toLine (show xs.length ≤ 16777216 by omega), bAll_map, h2, isNames]
    · simp [b_are_names, isNames, h1, show (3 : Int) < xs.length by omega]
  | _ => first | rfl | (unfold plain at h; cases h)
end CK

set_option linter.all false
set_option autoImplicit false
set_option maxRecDepth 100000
set_option maxHeartbeats 1000000
namespace CK
open PySem PySem.Spec L2 Bc
variable {w k : Nat}
def dNat (ns : List Nat) : List D := ns.map fun n => .int (n : Nat)
def dRow (r : List Nat) : D := .tup (dNat r)
def rowsL : Nat → List (List Nat)
  | 0 => [[]]
  | 1 => [[0], [1]]
  | 2 => [[0, 0], [0, 1], [1, 0], [1, 1]]
  | _ => [[0, 0, 0], [0, 0, 1], [0, 1, 0], [0, 1, 1], [1, 0, 0], [1, 0, 1], [1, 1, 0], [1, 1, 1]]
theorem s_rows0 : callF pg w (k + 1) 7 [.int 0] = M.pure (.lst true ((rowsL 0).map dRow)) := by
  rw [call_rows_for]
  have := itR1_nat (n := 0) (by decide)
  simp at this
  simp [b_rows_for, this, need_len, toLine, forL, rowsL, dRow, dNat]
theorem s_rows1 : callF pg w (k + 1) 7 [.int 1] = M.pure (.lst true ((rowsL 1).map dRow)) := by
  rw [call_rows_for]
  have := itR1_nat (n := 1) (by decide)
  simp at this
  simp [b_rows_for, this, need_len, toLine, forL, flatO_cons1, flatO_nil, mapO_cons1, mapO_nil, rowsL, dRow, dNat]
theorem s_rows2 : callF pg w (k + 1) 7 [.int 2] = M.pure (.lst true ((rowsL 2).map dRow)) := by
  rw [call_rows_for]
  have := itR1_nat (n := 2) (by decide)
  simp [List.range_succ] at this
  simp [b_rows_for, this, need_len, toLine, forL, flatO_cons1, flatO_nil, mapO_cons1, mapO_nil, rowsL, dRow, dNat]
theorem s_rows3 : callF pg w (k + 1) 7 [.int 3] = M.pure (.lst true ((rowsL 3).map dRow)) := by
  rw [call_rows_for]
  have := itR1_nat (n := 3) (by decide)
  simp [List.range_succ] at this
  simp [b_rows_for, this, need_len, toLine, forL, flatO_cons1, flatO_nil, mapO_cons1, mapO_nil, rowsL, dRow, dNat]
theorem s_rows {n : Nat} (h : n ≤ 3) : callF pg w (k + 1) 7 [.int (n : Nat)] = M.pure (.lst true ((rowsL n).map dRow)) := by
  match n, h with
  | 0, _ => exact s_rows0
  | 1, _ => exact s_rows1
  | 2, _ => exact s_rows2
  | 3, _ => exact s_rows3
theorem rowsL_len {n : Nat} (h : n ≤ 3) : (rowsL n).length = 2 ^ n := by
  match n, h with
  | 0, _ => rfl
  | 1, _ => rfl
  | 2, _ => rfl
  | 3, _ => rfl
theorem rowsL_ok {n : Nat} (h : n ≤ 3) : ∀ r ∈ rowsL n, r.length = n ∧ ∀ d ∈ r, d ≤ 1 := by
  match n, h with
  | 0, _ => simp [rowsL]
  | 1, _ => simp [rowsL]
  | 2, _ => simp [rowsL]
  | 3, _ => simp [rowsL]
theorem mul2 {a : Nat} (h : a ≤ 1000) : mulOk 2 (a : Int) = true := mulOk_small (by decide) (by omega)
def ixOf (ds : List Nat) : Nat := ds.foldl (fun a d => 2 * a + d) 0
theorem rowsL_at {n : Nat} (h : n ≤ 3) {ds : List Nat} (hl : ds.length = n) (hd : ∀ d ∈ ds, d ≤ 1) : (rowsL n)[ixOf ds]? = some ds := by
  have two : ∀ d : Nat, d ≤ 1 → d = 0 ∨ d = 1 := fun d h => by omega
  match n, h, ds, hl with
  | 0, _, [], _ => rfl
  | 1, _, [a], _ =>
    rcases two a (hd a (by simp)) with rfl | rfl <;> rfl
  | 2, _, [a, b], _ =>
    rcases two a (hd a (by simp)) with rfl | rfl <;> rcases two b (hd b (by simp)) with rfl | rfl <;> rfl
  | 3, _, [a, b, c], _ =>
    rcases two a (hd a (by simp)) with rfl | rfl <;> rcases two b (hd b (by simp)) with rfl | rfl <;> rcases two c (hd c (by simp)) with rfl | rfl <;> rfl
theorem s_index_of {ds : List Nat} {b : Bool} (h : ∀ d ∈ ds, d ≤ 1) (hl : ds.length ≤ 3) : callF pg w (k + 1) 13 [.lst b (dNat ds)] = M.pure (.int (ixOf ds : Nat)) := by
  rw [call_index_of]
  unfold dNat
  match ds, hl with
  | [], _ => simp [b_index_of, forL, ixOf]
  | [a], _ =>
    have := mul2 (a := 0) (by omega)
    simp at this
    simp [b_index_of, forL, ixOf, binD_mul this]
  | [a, c], _ =>
    have h1 := mul2 (a := 0) (by omega)
    simp at h1
    have h2 : a ≤ 1 := h a (by simp)
    have h2 := mul2 (a := a) (by omega)
    simp [b_index_of, forL, ixOf, binD_mul h1, binD_mul h2]
  | [a, c, e], _ =>
    have h1 := mul2 (a := 0) (by omega)
    simp at h1
    have h2 : a ≤ 1 := h a (by simp)
    have h4 : c ≤ 1 := h c (by simp)
    have h3 := mul2 (a := 2 * a + c) (by omega)
    have h2 := mul2 (a := a) (by omega)
    simp at h3
    simp [b_index_of, forL, ixOf, binD_mul h1, binD_mul h2, binD_mul h3]
theorem bitAnd1 (n : Nat) : Builtin.bitAnd (n : Int) 1 = ((n % 2 : Nat) : Int) := by
  have : Builtin.bitAnd (n : Int) 1 = ((n &&& 1 : Nat) : Int) := by
    unfold Builtin.bitAnd
    rw [decide_eq_true (show (0 : Int) ≤ (n : Int) by omega)]
    rfl
  rw [this, Nat.and_one_is_mod]
def digs (ns : List Nat) (p : Nat) : List Nat := ns.map fun n => n / 2 ^ p % 2
theorem digs_le {ns : List Nat} {p : Nat} : ∀ d ∈ digs ns p, d ≤ 1 := by
  intro d hd
  unfold digs at hd
  rw [List.mem_map] at hd
  obtain ⟨n, _, rfl⟩ := hd
  omega
/-- a sequence of this kind -/
def seqD (b : Option Bool) (xs : List D) : D := match b with
  | none => .tup xs
  | some b => .lst b xs
theorem itSeq_seq (b : Option Bool) (xs : List D) : itSeq [seqD b xs] = M.pure xs := by cases b <;> rfl
theorem s_digits_at {b : Option Bool} {ns : List Nat} {p : Nat} (hl : ns.length ≤ 3) : callF pg w (k + 1) 14 [seqD b (dNat ns), .int (p : Nat)] = M.pure (.lst true (dNat (digs ns p))) := by
  rw [call_digits_at]
  simp [b_digits_at, itSeq_seq, dNat]
  rw [mapO_map (g := fun n => D.int ((n / 2 ^ p % 2 : Nat) : Int)) fun n _ => by
    rw [binD_shr, pure_bind', show ((n : Int) / 2 ^ p) = ((n / 2 ^ p : Nat) : Int) by simp, binD_and, bitAnd1]
    rfl]
  simp [need_len, toLine (show ns.length ≤ 16777216 by omega), digs, Function.comp_def]
def maxBits : List Nat → Nat → Nat
  | [], a => a
  | n :: r, a => maxBits r (if Builtin.Int.intBits (n : Int) < a then a else Builtin.Int.intBits (n : Int))
theorem s_length_of {b : Option Bool} {ns : List Nat} : callF pg w (k + 1) 15 [seqD b (dNat ns)] = M.pure (.int (maxBits ns 0 : Nat)) := by
  rw [call_length_of]
  simp [b_length_of, itSeq_seq, dNat]
  refine forL_then (e := fun n : Nat => D.int n) (fun (a : Nat) (j : Slot) => [.val (seqD b (dNat ns)), .val (.int (a : Nat)), j]) (fun (a n : Nat) => if Builtin.Int.intBits (n : Int) < a then a else Builtin.Int.intBits (n : Int)) (fun _ => True) (xs := ns) (a := 0) (j := .un) trivial ?_ ?_
  · intro n hn a j _
    refine ⟨trivial, .val (.int (n : Nat)), ?_⟩
    simp [bmD, mBits]
    by_cases h : Builtin.Int.intBits (n : Int) < a <;> simp [h]
  · intro j _
    simp
    have : ∀ (ns : List Nat) (a : Nat), ns.foldl (fun (a n : Nat) => if Builtin.Int.intBits (n : Int) < a then a else Builtin.Int.intBits (n : Int)) a = maxBits ns a := by
      intro ns
      induction ns with
      | nil => intro a; rfl
      | cons n r ih => intro a; rw [List.foldl_cons, ih]; rfl
    rw [this]
theorem bits_lt (n t : Nat) : t < Builtin.Int.intBits (n : Int) ↔ 0 < n / 2 ^ t := by
  unfold Builtin.Int.intBits
  rw [Nat.div_pos_iff]
  by_cases h : n = 0
  · subst h
    have : ¬ (2 ^ t ≤ 0) := by have := Nat.pow_pos (n := t) (show 0 < 2 by decide); omega
    simp
  · have h1 : ((n : Int) == 0) = false := by simpa using h
    rw [h1]
    have h2 : (n : Int).natAbs = n := by omega
    rw [h2]
    have := Nat.le_log2 (k := t) h
    have h3 := Nat.pow_pos (n := t) (show 0 < 2 by decide)
    simp
    omega
theorem maxBits_lt (t : Nat) : ∀ (ns : List Nat) (a : Nat), t < maxBits ns a ↔ t < a ∨ ∃ n ∈ ns, 0 < n / 2 ^ t
  | [], a => by unfold maxBits; simp
  | n :: r, a => by
    unfold maxBits
    rw [maxBits_lt t r]
    have h := bits_lt n t
    simp only [List.mem_cons, exists_eq_or_imp]
    by_cases e : Builtin.Int.intBits (n : Int) < a
    · rw [if_pos e]
      constructor
      · rintro (h1 | h1)
        · exact .inl h1
        · exact .inr (.inr h1)
      · rintro (h1 | h1 | h1)
        · exact .inl h1
        · exact .inl (by have := h.2 h1; omega)
        · exact .inr h1
    · rw [if_neg e]
      constructor
      · rintro (h1 | h1)
        · exact .inr (.inl (h.1 h1))
        · exact .inr (.inr h1)
      · rintro (h1 | h1 | h1)
        · exact .inl (by omega)
        · exact .inl (h.2 h1)
        · exact .inr h1
/-- at most three names, the least first -/
structure Nm (ns : List Str) : Prop where
  ok : ∀ y ∈ ns, okS y = true
  len : ns.length ≤ 3
  word : ∀ y ∈ ns, isWord (.str y) = true
  asc : ascB ltS ns = true
def dN (ns : List Str) : D := .tup (ns.map .str)
theorem ltS_ne {x y : Str} (h : ltS x y = true) : ¬ x = y := fun e => by
  subst e
  exact absurd (of_decide_eq_true h) (List.lt_irrefl _)
theorem s_place_of {ns : List Str} {x : Str} (h : Nm ns) (hx : x ∈ ns) : callF pg w (k + 1) 12 [.str x, dN ns] = M.pure (.int (ns.idxOf x : Nat)) := by
  rw [call_place_of]
  have hl := h.len
  simp [b_place_of, dN]
  rw [itR1_nat (to62 (by omega)), pure_bind', mapO_mapF (p := fun (m : Nat) => ns[m]? == some x) (g := fun (m : Nat) => D.int m)]
  · simp [need_len]
    have hasc := h.asc
    match ns, hl, hx, hasc with
    | [a], _, hx, _ =>
      have : x = a := by simpa using hx
      subst this
      simp [List.range_succ, need_len, toLine]
    | [a, b], _, hx, hasc =>
      rw [ascB_cons, Bool.and_eq_true] at hasc
      have hab := ltS_ne hasc.1
      have hba : ¬ b = a := fun e => hab e.symm
      have hab' : (a == b) = false := by simpa using hab
      have hx : x = a ∨ x = b := by simpa using hx
      rcases hx with rfl | rfl
      · simp [List.range_succ, need_len, toLine, hba, List.filter_cons, List.idxOf_cons]
      · simp [List.range_succ, need_len, toLine, hab, hab', List.filter_cons, List.idxOf_cons]
    | [a, b, c], _, hx, hasc =>
      rw [ascB_cons, ascB_cons, Bool.and_eq_true, Bool.and_eq_true] at hasc
      have hab := ltS_ne hasc.1
      have hbc := ltS_ne hasc.2.1
      have hac : ¬ a = c := fun e => by
        have h1 := of_decide_eq_true hasc.1
        have h2 := of_decide_eq_true hasc.2.1
        rw [e] at h1
        exact List.lt_asymm h1 h2
      have hba : ¬ b = a := fun e => hab e.symm
      have hcb : ¬ c = b := fun e => hbc e.symm
      have hca : ¬ c = a := fun e => hac e.symm
      have hab' : (a == b) = false := by simpa using hab
      have hbc' : (b == c) = false := by simpa using hbc
      have hac' : (a == c) = false := by simpa using hac
      have hx : x = a ∨ x = b ∨ x = c := by simpa using hx
      rcases hx with rfl | rfl | rfl
      · simp [List.range_succ, need_len, toLine, hba, hca, List.filter_cons, List.idxOf_cons]
      · simp [List.range_succ, need_len, toLine, hab, hab', hcb, List.filter_cons, List.idxOf_cons]
      · simp [List.range_succ, need_len, toLine, hac, hbc, hac', hbc', List.filter_cons, List.idxOf_cons]
  · intro m hm
    rw [List.mem_range] at hm
    simp [atI_ofNat, hm]
    rw [cmpD_eq_s (h.ok _ (by simp)) (h.ok _ hx)]
    by_cases e : ns[m] = x <;> simp [e]
end CK

set_option linter.all false
set_option autoImplicit false
set_option maxRecDepth 100000
set_option maxHeartbeats 1000000
namespace CK
open PySem PySem.Spec L2 Bc
variable {w k : Nat}
/-! ### sizes -/
def Lt2 (x : Int) (n : Nat) : Prop := x.natAbs < 2 ^ n
theorem Lt2.mono {x : Int} {n m : Nat} (h : Lt2 x n) (l : n ≤ m) : Lt2 x m := Nat.lt_of_lt_of_le h (Nat.pow_le_pow_right (by decide) l)
theorem Lt2.mul {x y : Int} {n m : Nat} (h : Lt2 x n) (h' : Lt2 y m) : Lt2 (x * y) (n + m) := by
  unfold Lt2 at *
  rw [Int.natAbs_mul, Nat.pow_add]
  exact Nat.mul_lt_mul'' h h'
theorem Lt2.add {x y : Int} {n : Nat} (h : Lt2 x n) (h' : Lt2 y n) : Lt2 (x + y) (n + 1) := by
  unfold Lt2 at *
  have := Int.natAbs_add_le x y
  rw [Nat.pow_succ]
  omega
theorem Lt2.log {x : Int} {n : Nat} (h : Lt2 x n) : x.natAbs.log2 ≤ n := by
  by_cases h0 : x.natAbs = 0
  · rw [h0]; exact Nat.zero_le _
  · exact Nat.le_of_lt ((Nat.log2_lt h0).2 h)
theorem mulL {x y : Int} {n m : Nat} (h : Lt2 x n) (h' : Lt2 y m) (l : n + m < 1000000) : mulOk x y = true := by
  unfold mulOk
  have := h.log
  have := h'.log
  exact decide_eq_true (by omega)
theorem divL {x y : Int} {n : Nat} (h : 0 < y) (h' : Lt2 y n) (l : n < 9000) : pyDiv x y = true := by
  unfold pyDiv
  rw [PyProof.noPylong_of_log2]
  · rw [decide_eq_true h]; rfl
  · have := h'.log
    omega
/-! ### the greatest common divisor -/
theorem s_shared {a b : Int} (hw : b.natAbs < w) : callF pg w (k + 1) 3 [.int a, .int b] = M.pure (.int (Nat.gcd a.natAbs b.natAbs : Nat)) := by
  rw [call_shared]
  have ab : ∀ x : Int, (if x < 0 then -x else x) = (x.natAbs : Int) := fun x => by split <;> omega
  simp [b_shared, need_len, toLine, ab]
  refine whileL_then (fun (p : Nat × Nat) => [.val (.int a), .val (.int b), .val (.int (p.1 : Nat)), .val (.int (p.2 : Nat))])
    (fun p => decide (0 < p.2)) (fun p => Nat.gcd p.1 p.2 = Nat.gcd a.natAbs b.natAbs) (fun p => p.2) (a := (a.natAbs, b.natAbs)) rfl hw ?_ ?_ ?_
  · intro p hp
    simp
  · intro p hp hc
    have hc := of_decide_eq_true hc
    refine ⟨(p.2, p.1 % p.2), ?_, ?_, Nat.mod_lt _ hc⟩
    · have : binD .Mod (.int (p.1 : Nat)) (.int (p.2 : Nat)) = M.pure (.int ((p.1 % p.2 : Nat) : Int)) := by
        rw [binD_mod (by omega)]
        simp
      simp [this, need_len, toLine]
    · show Nat.gcd p.2 (p.1 % p.2) = _
      rw [← hp, Nat.gcd_comm p.2, ← Nat.gcd_rec, Nat.gcd_comm]
  · intro p hp hc
    have hc := of_decide_eq_false hc
    have h0 : p.2 = 0 := by omega
    rw [h0, Nat.gcd_zero_right] at hp
    simp [hp]
/-! ### fractions -/
def dQ (q : Rat) : D := .tup [.int q.num, .int (q.den : Nat)]
def Fine (q : Rat) : Prop := Lt2 q.num 1500 ∧ q.den < 2 ^ 1500
theorem Fine.den {q : Rat} (h : Fine q) : Lt2 ((q.den : Nat) : Int) 1500 := by
  have := h.2
  unfold Lt2
  rw [Int.natAbs_natCast]
  exact this
def dotP (ps : List (Rat × Rat)) : Rat := ps.foldl (fun q p => q + p.1 * p.2) 0
def dot (rs vs : List Rat) : Rat := dotP (rs.zip vs)
theorem dotP_take {ps : List (Rat × Rat)} {i : Nat} (hi : i < ps.length) : dotP (ps.take (i + 1)) = dotP (ps.take i) + ps[i].1 * ps[i].2 := by
  unfold dotP
  rw [List.take_succ, List.getElem?_eq_getElem hi, List.foldl_append]
  rfl
theorem step_eq (q r v : Rat) : q + r * v = mkRat (q.num * r.den * v.den + r.num * v.num * q.den) (q.den * r.den * v.den) := by
  have h1 := q.den_nz
  have h2 : r.den * v.den ≠ 0 := Nat.mul_ne_zero r.den_nz v.den_nz
  have e : q + r * v = mkRat q.num q.den + mkRat (r.num * v.num) (r.den * v.den) := by rw [Rat.mkRat_self, ← Rat.mul_def']
  rw [e, Rat.mkRat_add_mkRat _ _ h1 h2, Nat.mul_assoc]
  congr 1
  rw [Int.natCast_mul, Int.mul_assoc, Int.mul_assoc q.num]
/-- a loop by its places -/
theorem forL_pos {α β J : Type} {f : D → Bc.Env → M (Fl × Bc.Env)} {e : β → D} (mk : α → J → Bc.Env) : ∀ {xs : List β} (st : Nat → α) {j : J}, (∀ (i : Nat) (hi : i < xs.length) (j : J), Ret (f (e xs[i]) (mk (st i) j)) fun r => ∃ j', r = (.nx, mk (st (i + 1)) j')) →
    ∃ j', forL f (xs.map e) (mk (st 0) j) = M.pure (.nx, mk (st xs.length) j')
  | [], st, j, _ => ⟨j, rfl⟩
  | x :: xs, st, j, h => by
    obtain ⟨r, e1, j1, rfl⟩ := h 0 (by simp) j
    obtain ⟨j2, e2⟩ := forL_pos mk (xs := xs) (fun i => st (i + 1)) (j := j1) fun i hi j => h (i + 1) (by simpa using hi) j
    refine ⟨j2, ?_⟩
    rw [List.map_cons]
    unfold forL
    have e1 : f (e x) (mk (st 0) j) = M.pure (.nx, mk (st 1) j1) := e1
    rw [e1, pure_bind']
    exact e2
theorem forL_pos_ret {α β γ J : Type} {f : D → Bc.Env → M (Fl × Bc.Env)} {e : β → D} (mk : α → J → Bc.Env) {xs : List β} (st : Nat → α) {j : J} {g : Fl × Bc.Env → M γ} {S : γ → Prop} (h : ∀ (i : Nat) (hi : i < xs.length) (j : J), Ret (f (e xs[i]) (mk (st i) j)) fun r => ∃ j', r = (.nx, mk (st (i + 1)) j'))
    (hr : ∀ j', Ret (g (.nx, mk (st xs.length) j')) S) : Ret ((forL f (xs.map e) (mk (st 0) j)).bind g) S := by
  obtain ⟨j', e⟩ := forL_pos mk st (j := j) h
  rw [e, pure_bind']
  exact hr j'
theorem itZip_seq (b b' : Option Bool) (h : ∀ x, b' = none → b ≠ some x) (xs ys : List D) : itZip [seqD b xs, seqD b' ys] = M.pure ((xs.zip ys).map fun p => .tup [p.1, p.2]) := by
  cases b with
  | none => cases b' <;> rfl
  | some x => cases b' with
    | none => exact absurd rfl (h x rfl)
    | some y => rfl
structure FineP (ps : List (Rat × Rat)) : Prop where
  each : ∀ p ∈ ps, Fine p.1 ∧ Fine p.2
  part : ∀ i, i ≤ ps.length → Fine (dotP (ps.take i))
theorem pow_le_w {n : Nat} (hn : n ≤ 5000) (hw : BIG ≤ w) : 2 ^ n ≤ w := by
  rw [BIG_eq] at hw
  exact Nat.le_trans (Nat.pow_le_pow_right (by decide) hn) hw
theorem s_added {b : Option Bool} {b' : Bool} {rs vs : List Rat} (hw : BIG ≤ w) (hf : FineP (rs.zip vs)) : callF pg w (k + 2) 10 [seqD b (rs.map dQ), .lst b' (vs.map dQ)] = M.pure (dQ (dot rs vs)) := by
  rw [call_added]
  have ez : itZip [seqD b (rs.map dQ), .lst b' (vs.map dQ)] = M.pure ((rs.zip vs).map fun p => .tup [dQ p.1, dQ p.2]) := by
    rw [show D.lst b' (vs.map dQ) = seqD (some b') (vs.map dQ) from rfl, itZip_seq b (some b') (fun x h => by cases h), List.zip_map, List.map_map]
    rfl
  simp [b_added, need_len, toLine, ez]
  refine Ret.eq ?_
  refine forL_pos_ret (e := fun p : Rat × Rat => .tup [dQ p.1, dQ p.2]) (fun (q : Rat) (j : Slot × Slot × Slot × Slot × Slot) => [.val (seqD b (rs.map dQ)), .val (.lst b' (vs.map dQ)), .val (.int q.num), .val (.int (q.den : Nat)), j.1, j.2.1, j.2.2.1, j.2.2.2.1, j.2.2.2.2])
    (xs := rs.zip vs) (fun i => dotP ((rs.zip vs).take i)) (j := (.un, .un, .un, .un, .un)) ?_ ?_
  · intro i hi j
    have hq := hf.part i (Nat.le_of_lt hi)
    obtain ⟨hr, hv⟩ := hf.each _ (List.getElem_mem hi)
    rw [dotP_take hi]
    generalize dotP ((rs.zip vs).take i) = q at *
    generalize (rs.zip vs)[i] = p at *
    obtain ⟨r, v⟩ := p
    have hr : Fine r := hr
    have hv : Fine v := hv
    show Ret _ fun (x : Fl × Bc.Env) => ∃ j' : Slot × Slot × Slot × Slot × Slot, x = (Fl.nx, [Slot.val (seqD b (rs.map dQ)), Slot.val (D.lst b' (vs.map dQ)), Slot.val (D.int (q + r * v).num), Slot.val (D.int ((q + r * v).den : Nat)), j'.1, j'.2.1, j'.2.2.1, j'.2.2.2.1, j'.2.2.2.2])
    simp [dQ]
    by_cases h1 : r = 0
    · subst h1
      simp [Rat.add_zero]
      exact Ret.pure ⟨_, _, _, _, _, rfl⟩
    · by_cases h2 : v = 0
      · subst h2
        simp [h1, Rat.add_zero]
        exact Ret.pure ⟨_, _, _, _, _, rfl⟩
      · have t1 := hq.1.mul hr.den
        have t2 := t1.mul hv.den
        have u1 := hr.1.mul hv.1
        have u2 := u1.mul hq.den
        have b1 := hq.den.mul hr.den
        have b2 := b1.mul hv.den
        have tt := t2.add u2
        have e1 := binD_mul (mulL hq.1 hr.den (by decide))
        have e2 := binD_mul (mulL t1 hv.den (by decide))
        have e3 := binD_mul (mulL hr.1 hv.1 (by decide))
        have e4 := binD_mul (mulL u1 hq.den (by decide))
        have e5 := binD_mul (mulL hq.den hr.den (by decide))
        have e6 := binD_mul (mulL b1 hv.den (by decide))
        have hN : ((q.den : Int) * (r.den : Int) * (v.den : Int)) = ((q.den * r.den * v.den : Nat) : Int) := by simp
        have hd0 : 0 < q.den * r.den * v.den := Nat.mul_pos (Nat.mul_pos q.den_pos r.den_pos) v.den_pos
        have s := s_shared (w := w) (k := k) (a := q.num * r.den * v.den + r.num * v.num * q.den) (b := (q.den : Int) * (r.den : Int) * (v.den : Int)) (Nat.lt_of_lt_of_le b2 (pow_le_w (by decide) hw))
        have habs : ((q.den : Int) * (r.den : Int) * (v.den : Int)).natAbs = q.den * r.den * v.den := by rw [hN, Int.natAbs_natCast]
        rw [habs] at s
        have hstep := step_eq q r v
        have hn := Rat.num_mkRat (q.num * r.den * v.den + r.num * v.num * q.den) (q.den * r.den * v.den)
        have hd := Rat.den_mkRat (q.num * r.den * v.den + r.num * v.num * q.den) (q.den * r.den * v.den)
        rw [← hstep, if_neg (Nat.ne_of_gt hd0), Nat.gcd_comm] at hn hd
        have hg0 : 0 < Nat.gcd (q.num * r.den * v.den + r.num * v.num * q.den).natAbs (q.den * r.den * v.den) := Nat.gcd_pos_of_pos_right _ hd0
        have hgl : Lt2 ((Nat.gcd (q.num * r.den * v.den + r.num * v.num * q.den).natAbs (q.den * r.den * v.den) : Nat) : Int) 4500 := by
          have := Nat.gcd_le_right (q.num * r.den * v.den + r.num * v.num * q.den).natAbs hd0
          rw [hN] at b2
          unfold Lt2 at b2 ⊢
          rw [Int.natAbs_natCast] at b2 ⊢
          exact Nat.lt_of_le_of_lt this b2
        have f1 := binD_div (i := q.num * r.den * v.den + r.num * v.num * q.den) (divL (x := q.num * r.den * v.den + r.num * v.num * q.den) (by omega) hgl (by decide))
        have f2 := binD_div (i := ((q.den * r.den * v.den : Nat) : Int)) (divL (x := ((q.den * r.den * v.den : Nat) : Int)) (by omega) hgl (by decide))
        have hd' : (((q.den * r.den * v.den : Nat) : Int) / ((Nat.gcd (q.num * r.den * v.den + r.num * v.num * q.den).natAbs (q.den * r.den * v.den) : Nat) : Int)) = ((q + r * v).den : Int) := by
          rw [hd]; simp
        rw [hd'] at f2
        rw [← hn] at f1
        rw [← hN] at f2
        simp [h1, h2, e1, e2, e3, e4, e5, e6, need_len, toLine, s, f1, f2]
        exact Ret.pure ⟨_, _, _, _, _, rfl⟩
  · intro j
    simp [need_len, toLine]
    exact Ret.pure (by rw [List.take_of_length_le (by simp)]; rfl)
end CK

set_option linter.all false
set_option autoImplicit false
set_option maxRecDepth 100000
set_option maxHeartbeats 1000000
namespace CK
open PySem PySem.Spec L2 Bc
variable {w k : Nat}
def isTup : D → Bool
  | .tup _ => true
  | _ => false
theorem isi_tuple {d : D} (h : plain d = true) : isiDs d [.tuple] = some (isTup d) := by
  cases d <;> first | rfl | (unfold plain at h; cases h)
theorem s_begun {b : Option Bool} {ns : List Int} (hl : ns.length ≤ 1000) : callF pg w (k + 1) 9 [seqD b (ns.map .int)] = M.pure (.lst true (ns.map fun n : Int => dQ n)) := by
  rw [call_begun]
  simp [b_begun, itSeq_seq]
  rw [mapO_map (g := fun n : Int => dQ n)]
  · simp [need_len, toLine (show ns.length ≤ 16777216 by omega)]
  · intro n hn
    simp [need_len, toLine]
    rfl
def dVec (rs : List Rat) : D := .tup (rs.map dQ)
theorem s_applied {M0 : List (List Rat)} {vs : List Rat} {b : Bool} (hw : BIG ≤ w) (hl : M0.length ≤ 1000) (hf : ∀ rs ∈ M0, FineP (rs.zip vs)) :
    callF pg w (k + 3) 11 [.tup (M0.map dVec), .lst b (vs.map dQ)] = M.pure (.lst true ((M0.map fun rs => dot rs vs).map dQ)) := by
  rw [call_applied]
  simp [b_applied]
  rw [mapO_map (g := fun rs => dQ (dot rs vs))]
  · simp [need_len, toLine (show M0.length ≤ 16777216 by omega), Function.comp_def]
  · intro rs hrs
    have := s_added (w := w) (k := k) (b := none) (b' := b) hw (hf rs hrs)
    rw [show seqD none (rs.map dQ) = dVec rs from rfl] at this
    simp [this]
def isFr : D → Bool
  | .tup [.int a, .int b] => decide (0 < b) && decide (Nat.gcd a.natAbs b.natAbs = 1)
  | _ => false
theorem plain_int {i : Int} (h : plain (.int i) = true) : i.natAbs < BIG := of_decide_eq_true h
theorem s_is_fraction {d : D} (h : plain d = true) (hw : BIG ≤ w) : callF pg w (k + 2) 4 [d] = M.pure (.bl (isFr d)) := by
  rw [call_is_fraction]
  cases d with
  | tup xs =>
    have h := plains_mem (show plains xs = true from h)
    by_cases h1 : xs.length = 2
    · match xs, h1, h with
      | [a, b], _, h =>
        have ha := h a (by simp)
        have hb := h b (by simp)
        simp [b_is_fraction, s_is_whole ha, s_is_whole hb]
        cases a with
        | int a =>
          cases b with
          | int b =>
            have hbb := plain_int hb
            have := s_shared (w := w) (k := k) (a := a) (b := b) (by omega)
            simp [isW, isFr]
            by_cases h0 : 0 < b
            · have e : decide (((Nat.gcd a.natAbs b.natAbs : Nat) : Int) = 1) = decide (Nat.gcd a.natAbs b.natAbs = 1) := decide_eq_decide.2 (by omega)
              simp [h0, this, e]
            · simp [h0]
          | _ => simp [isW, isFr]
        | _ => simp [isW, isFr]
    · have : isFr (.tup xs) = false := by
        match xs, h1 with
        | [], _ => rfl
        | [_], _ => simp [isFr]
        | _ :: _ :: _ :: _, _ => simp [isFr]
        | [_, _], h => exact absurd rfl h
      simp [b_is_fraction, this, show ¬ (xs.length : Int) = 2 by omega]
  | _ => first | (simp [b_is_fraction, isFr]; done) | (unfold plain at h; cases h)
theorem isFr_dQ (q : Rat) : isFr (dQ q) = true := by
  show (decide (0 < ((q.den : Nat) : Int)) && decide (Nat.gcd q.num.natAbs ((q.den : Nat) : Int).natAbs = 1)) = true
  have := q.den_pos
  rw [decide_eq_true (by omega), Int.natAbs_natCast, decide_eq_true q.reduced]
  rfl
theorem isFr_get {d : D} (h : isFr d = true) : ∃ q, d = dQ q := by
  unfold isFr at h
  split at h
  · rename_i a b
    rw [Bool.and_eq_true] at h
    have h1 := of_decide_eq_true h.1
    have h2 := of_decide_eq_true h.2
    refine ⟨⟨a, b.natAbs, by omega, h2⟩, ?_⟩
    show _ = D.tup [.int a, .int (b.natAbs : Nat)]
    rw [Int.natAbs_of_nonneg (by omega)]
  · cases h
def isRw (n : Nat) : D → Bool
  | .tup xs => decide (xs.length = n) && xs.all isFr
  | _ => false
theorem s_is_row {d : D} {n : Nat} (h : plain d = true) (hn : n ≤ 1000) (hw : BIG ≤ w) : callF pg w (k + 3) 5 [d, .int (n : Nat)] = M.pure (.bl (isRw n d)) := by
  rw [call_is_row]
  cases d with
  | tup xs =>
    have h := plains_mem (show plains xs = true from h)
    by_cases h1 : xs.length = n
    · simp [b_is_row, h1]
      rw [mapO_all (g := fun d => .bl (isFr d)) fun d hd => by simp [s_is_fraction (h d hd) hw]]
      simp [need_len, h1, toLine (show n ≤ 16777216 by omega), bAll_map, isRw]
    · simp [b_is_row, isRw, h1, show ¬ (xs.length : Int) = (n : Int) by omega]
  | _ => first | (simp [b_is_row, isRw]; done) | (unfold plain at h; cases h)
def isSd (n : Nat) : D → Bool
  | .tup xs => decide (xs.length = n) && xs.all (isRw n)
  | _ => false
theorem s_is_side {d : D} {n : Nat} (h : plain d = true) (hn : n ≤ 1000) (hw : BIG ≤ w) : callF pg w (k + 4) 6 [d, .int (n : Nat)] = M.pure (.bl (isSd n d)) := by
  rw [call_is_side]
  cases d with
  | tup xs =>
    have h := plains_mem (show plains xs = true from h)
    by_cases h1 : xs.length = n
    · simp [b_is_side, h1]
      rw [mapO_all (g := fun d => .bl (isRw n d)) fun d hd => by simp [s_is_row (h d hd) hn hw]]
      simp [need_len, h1, toLine (show n ≤ 16777216 by omega), bAll_map, isSd]
    · simp [b_is_side, isSd, h1, show ¬ (xs.length : Int) = (n : Int) by omega]
  | _ => first | (simp [b_is_side, isSd]; done) | (unfold plain at h; cases h)
theorem isRw_get {n : Nat} {d : D} (h : isRw n d = true) : ∃ rs, d = dVec rs ∧ rs.length = n := by
  cases d with
  | tup xs =>
    have h : (decide (xs.length = n) && xs.all isFr) = true := h
    rw [Bool.and_eq_true] at h
    have h1 := of_decide_eq_true h.1
    obtain ⟨rs, rfl, hl, _⟩ := lift_map (g := dQ) (G := fun _ => True) fun y hy => (isFr_get (List.all_eq_true.1 h.2 y hy)).elim fun q e => ⟨q, e, trivial⟩
    exact ⟨rs, rfl, by rw [hl]; exact h1⟩
  | _ => cases h
theorem isRw_dVec (rs : List Rat) : isRw rs.length (dVec rs) = true := by
  show (decide ((rs.map dQ).length = rs.length) && (rs.map dQ).all isFr) = true
  rw [List.length_map, decide_eq_true rfl, List.all_map, Bool.true_and, List.all_eq_true]
  intro q hq
  exact isFr_dQ q
theorem isSd_get {n : Nat} {d : D} (h : isSd n d = true) : ∃ M0 : List (List Rat), d = .tup (M0.map dVec) ∧ M0.length = n ∧ ∀ rs ∈ M0, rs.length = n := by
  cases d with
  | tup xs =>
    have h : (decide (xs.length = n) && xs.all (isRw n)) = true := h
    rw [Bool.and_eq_true] at h
    have h1 := of_decide_eq_true h.1
    obtain ⟨M0, rfl, hl, hG⟩ := lift_map (g := dVec) (G := fun rs => rs.length = n) fun y hy => isRw_get (List.all_eq_true.1 h.2 y hy)
    exact ⟨M0, rfl, by rw [hl]; exact h1, hG⟩
  | _ => cases h
theorem isSd_map {n : Nat} {M0 : List (List Rat)} (h : M0.length = n) (h' : ∀ rs ∈ M0, rs.length = n) : isSd n (.tup (M0.map dVec)) = true := by
  show (decide ((M0.map dVec).length = n) && (M0.map dVec).all (isRw n)) = true
  rw [List.length_map, decide_eq_true h, List.all_map, Bool.true_and, List.all_eq_true]
  intro rs hrs
  rw [← h' rs hrs]
  exact isRw_dVec rs
end CK

set_option linter.all false
set_option autoImplicit false
set_option maxRecDepth 100000
set_option maxHeartbeats 1000000
namespace CK
open PySem PySem.Spec L2 Bc
variable {w k : Nat}
def _root_.Bc.Enc.comap {α β : Type} [DecidableEq α] [DecidableEq β] {e : α → D} {n : Nat} (h : Enc e n) (f : β → α) (inj : ∀ a b, f a = f b → a = b) : Enc (fun b => e (f b)) n :=
  ⟨fun b => h.py (f b), fun b => h.hpy (f b), fun b => h.lay (f b), fun b => h.dep (f b), fun a b => by
    rw [h.eqv, decide_eq_decide]
    exact ⟨inj a b, fun e => by rw [e]⟩⟩
def encQ : Enc dQ 1 := (Enc.int.pair Enc.nat).comap (fun q : Rat => (q.num, q.den)) fun a b h => by
  have h := Prod.mk.inj h
  exact Rat.ext h.1 h.2
def encVec : Enc dVec 2 := encQ.tup
/-- a plain rule -/
structure Rl where
  nm : List Str
  S : List (List (List Rat))
  F : List Int
  T : List Rat
def dSide (M0 : List (List Rat)) : D := .tup (M0.map dVec)
def dR (r : Rl) : D := .tup [dN r.nm, .tup (r.S.map dSide), .tup (r.F.map .int), dVec r.T]
def firstsQ (r : Rl) : List Rat := r.F.map fun n : Int => (n : Rat)
def sideOf (r : Rl) (e : List Nat) : List (List Rat) := (r.S[ixOf e]?).getD []
/-- twice a tuple and a digit row -/
def dbl (x e : List Nat) : List Nat := List.zipWith (fun n d => 2 * n + d) x e
/-- what a rule tells: the values of its lines, at numbers below 2 ^ N -/
structure Tells (r : Rl) (f : List Nat → List Rat) (N : Nat) : Prop where
  nms : Nm r.nm
  sides : r.S.length = 2 ^ r.nm.length
  few : r.F.length ≤ 1000 ∧ ∀ M0 ∈ r.S, M0.length ≤ 1000
  zero : f (List.replicate r.nm.length 0) = firstsQ r
  step : ∀ x e : List Nat, x.length = r.nm.length → e.length = r.nm.length → (∀ n ∈ x, n < 2 ^ N) → (∀ d ∈ e, d ≤ 1) →
    (∀ rs ∈ sideOf r e, FineP (rs.zip (f x))) ∧ f (dbl x e) = (sideOf r e).map fun rs => dot rs (f x)
  told : ∀ x : List Nat, x.length = r.nm.length → (∀ n ∈ x, n < 2 ^ N) → FineP (r.T.zip (f x))
def ownN (r : Rl) (ns : List Str) (nums : List Nat) : List Nat := r.nm.map fun x => (nums[ns.idxOf x]?).getD 0
@[simp] theorem dR_0 (r : Rl) : subD (dR r) (.int 0) = M.pure (dN r.nm) := (rfl)
@[simp] theorem dR_1 (r : Rl) : subD (dR r) (.int 1) = M.pure (.tup (r.S.map dSide)) := (rfl)
@[simp] theorem dR_2 (r : Rl) : subD (dR r) (.int 2) = M.pure (.tup (r.F.map .int)) := (rfl)
@[simp] theorem dR_3 (r : Rl) : subD (dR r) (.int 3) = M.pure (dVec r.T) := (rfl)
@[simp] theorem itSeq_dN (ns : List Str) : itSeq [dN ns] = M.pure (ns.map .str) := (rfl)
@[simp] theorem bLen_dN (ns : List Str) : bLen [dN ns] = M.pure (.int (ns.length : Nat)) := by
  show (M.pure (D.int ((ns.map D.str).length : Nat)) : M D) = _
  rw [List.length_map]
theorem itR3_down {L : Nat} (h : L < 2 ^ 62) : itR3 [.int ((L : Int) - 1), .int (-1), .int (-1)] = M.pure ((List.range L).map fun n : Nat => D.int (((L : Int) - 1) + n * (-1))) := by
  have e (i j c : Int) : itR3 [.int i, .int j, .int c] = (need (decide (c = -1 ∧ -(2 ^ 62) ≤ i ∧ i < 2 ^ 62 ∧ -(2 ^ 62) ≤ j ∧ j < 2 ^ 62))).bind fun _ => M.pure ((List.range (i - j).toNat).map fun (n : Nat) => .int (i + n * c)) := rfl
  rw [e, need_of (decide_eq_true (by omega)), pure_bind', show ((L : Int) - 1 - -1).toNat = L by omega]
theorem shift_all (x : List Nat) (p : Nat) : (x.map fun n => n / 2 ^ p) = dbl (x.map fun n => n / 2 ^ (p + 1)) (digs x p) := by
  unfold dbl digs
  induction x with
  | nil => rfl
  | cons n x ih =>
    rw [List.map_cons, List.map_cons, List.map_cons, List.zipWith_cons_cons, ih]
    congr 1
    rw [Nat.pow_succ, ← Nat.div_div_eq_div_mul]
    omega
theorem shift_zero (x : List Nat) : (x.map fun n => n / 2 ^ maxBits x 0) = List.replicate x.length 0 := by
  rw [List.eq_replicate_iff]
  refine ⟨List.length_map .., fun b hb => ?_⟩
  rw [List.mem_map] at hb
  obtain ⟨n, hn, rfl⟩ := hb
  cases h : n / 2 ^ maxBits x 0 with
  | zero => rfl
  | succ m =>
    have := (maxBits_lt (maxBits x 0) x 0).2 (.inr ⟨n, hn, by omega⟩)
    exact absurd this (Nat.lt_irrefl _)
theorem s_values_at {r : Rl} {f : List Nat → List Rat} {N : Nat} {ns : List Str} {nums : List Nat} (hw : BIG ≤ w) (ht : Tells r f N) (hn : Nm ns) (hsub : ∀ x ∈ r.nm, x ∈ ns) (hl : nums.length = ns.length) (hN : ∀ n ∈ nums, n < 2 ^ N) (hN2 : N ≤ 10000) :
    callF pg w (k + 4) 16 [dR r, dN ns, .tup (dNat nums)] = M.pure (.lst true ((f (ownN r ns nums)).map dQ)) := by
  rw [call_values_at]
  have hown : ∀ n ∈ ownN r ns nums, n < 2 ^ N := by
    intro n h
    unfold ownN at h
    rw [List.mem_map] at h
    obtain ⟨x, hx, rfl⟩ := h
    have : ns.idxOf x < nums.length := by rw [hl]; exact List.idxOf_lt_length_of_mem (hsub x hx)
    rw [List.getElem?_eq_getElem this]
    exact hN _ (List.getElem_mem this)
  have hol : (ownN r ns nums).length = r.nm.length := by unfold ownN; rw [List.length_map]
  have h3 := ht.nms.len
  have hbits : maxBits (ownN r ns nums) 0 ≤ N := by
    by_cases e : maxBits (ownN r ns nums) 0 ≤ N
    · exact e
    · exfalso
      rcases (maxBits_lt N (ownN r ns nums) 0).1 (by omega) with h | ⟨n, h1, h2⟩
      · omega
      · have := hown n h1
        rw [Nat.div_eq_of_lt this] at h2
        omega
  simp [b_values_at]
  rw [mapO_map (g := fun x => D.int (((nums[ns.idxOf x]?).getD 0 : Nat) : Int))]
  rotate_left
  · intro x hx
    have : ns.idxOf x < nums.length := by rw [hl]; exact List.idxOf_lt_length_of_mem (hsub x hx)
    rw [s_place_of hn (hsub x hx), pure_bind']
    simp [atI_ofNat, dNat, this]
  have e1 : r.nm.map (fun x => D.int (((nums[ns.idxOf x]?).getD 0 : Nat) : Int)) = dNat (ownN r ns nums) := by
    unfold dNat ownN
    rw [List.map_map]
    rfl
  have hdl : (dNat (ownN r ns nums)).length ≤ 3 := by unfold dNat; rw [List.length_map, hol]; exact h3
  rw [e1, noX_pure, pure_bind', need_len (toLine (by omega)), pure_bind']
  generalize ownN r ns nums = x at *
  have e2 := s_begun (w := w) (k := k + 2) (b := none) ht.few.1
  rw [show seqD none (r.F.map D.int) = .tup (r.F.map D.int) from rfl] at e2
  have e3 := s_length_of (w := w) (k := k + 2) (b := some true) (ns := x)
  rw [show seqD (some true) (dNat x) = .lst true (dNat x) from rfl] at e3
  simp [e2, e3]
  rw [show itD .range3 = itR3 from rfl, itR3_down (by omega), pure_bind']
  refine Ret.eq ?_
  have z0 : (f (x.map fun n => n / 2 ^ (maxBits x 0 - 0))) = firstsQ r := by rw [Nat.sub_zero, shift_zero, hol, ht.zero]
  have z1 : (r.F.map fun n : Int => dQ n) = (f (x.map fun n => n / 2 ^ (maxBits x 0 - 0))).map dQ := by rw [z0]; unfold firstsQ; rw [List.map_map]; rfl
  rw [z1]
  refine forL_pos_ret (e := fun n : Nat => D.int (((maxBits x 0 : Nat) : Int) - 1 + n * (-1))) (fun (v : List Rat) (j : Slot) => [.val (dR r), .val (dN ns), .val (.tup (dNat nums)), .val (.lst true (dNat x)), .val (.lst true (v.map dQ)), j, .un])
    (xs := List.range (maxBits x 0)) (fun i => f (x.map fun n => n / 2 ^ (maxBits x 0 - i))) (j := .un) ?_ ?_
  · intro i hi j
    rw [List.length_range] at hi
    rw [List.getElem_range]
    have hp : (((maxBits x 0 : Nat) : Int) - 1 + (i : Int) * (-1)) = ((maxBits x 0 - (i + 1) : Nat) : Int) := by omega
    have hs : maxBits x 0 - i = maxBits x 0 - (i + 1) + 1 := by omega
    have hst := ht.step (x.map fun n => n / 2 ^ (maxBits x 0 - i)) (digs x (maxBits x 0 - (i + 1))) (by rw [List.length_map, hol]) (by unfold digs; rw [List.length_map, hol]) (by
      intro n hn
      rw [List.mem_map] at hn
      obtain ⟨m, hm, rfl⟩ := hn
      exact Nat.lt_of_le_of_lt (Nat.div_le_self _ _) (hown m hm)) digs_le
    have hsh := shift_all x (maxBits x 0 - (i + 1))
    rw [← hs] at hsh
    rw [← hsh] at hst
    have hx3 : x.length ≤ 3 := by rw [hol]; exact h3
    have d1 := s_digits_at (w := w) (k := k + 2) (b := some true) (ns := x) (p := maxBits x 0 - (i + 1)) hx3
    rw [show seqD (some true) (dNat x) = .lst true (dNat x) from rfl] at d1
    have d2 := s_index_of (w := w) (k := k + 2) (ds := digs x (maxBits x 0 - (i + 1))) (b := true) digs_le (by unfold digs; rw [List.length_map]; exact hx3)
    have hix : ixOf (digs x (maxBits x 0 - (i + 1))) < r.S.length := by
      have h1 := rowsL_at (n := r.nm.length) h3 (ds := digs x (maxBits x 0 - (i + 1))) (by unfold digs; rw [List.length_map, hol]) digs_le
      have h2 := (List.getElem?_eq_some_iff.1 h1).1
      rw [rowsL_len h3] at h2
      rw [ht.sides]
      exact h2
    have hso : r.S[ixOf (digs x (maxBits x 0 - (i + 1)))]? = some (sideOf r (digs x (maxBits x 0 - (i + 1)))) := by
      unfold sideOf
      rw [List.getElem?_eq_getElem hix]
      rfl
    have d3 : L2.atI (r.S.map dSide) ((ixOf (digs x (maxBits x 0 - (i + 1))) : Nat) : Int) = some (dSide (sideOf r (digs x (maxBits x 0 - (i + 1))))) := by
      rw [atI_ofNat, List.getElem?_map, hso]; rfl
    have d4 := s_applied (w := w) (k := k) (b := true) hw (ht.few.2 _ (List.mem_of_getElem? hso)) hst.1
    rw [show D.tup ((sideOf r (digs x (maxBits x 0 - (i + 1)))).map dVec) = dSide (sideOf r (digs x (maxBits x 0 - (i + 1)))) from rfl, ← hst.2] at d4
    simp only [hp]
    simp [d1, d2, d3, d4]
    exact Ret.pure ⟨_, rfl⟩
  · intro j
    rw [List.length_range, Nat.sub_self]
    simp
    exact Ret.pure rfl
end CK

set_option linter.all false
set_option autoImplicit false
set_option maxRecDepth 100000
set_option maxHeartbeats 1000000
namespace CK
open PySem PySem.Spec L2 Bc
variable {w k : Nat}
theorem own_len (r : Rl) (ns : List Str) (nums : List Nat) : (ownN r ns nums).length = r.nm.length := by unfold ownN; rw [List.length_map]
theorem own_lt {r : Rl} {ns : List Str} {nums : List Nat} {N : Nat} (hsub : ∀ x ∈ r.nm, x ∈ ns) (hl : nums.length = ns.length) (hN : ∀ n ∈ nums, n < 2 ^ N) : ∀ n ∈ ownN r ns nums, n < 2 ^ N := by
  intro n h
  unfold ownN at h
  rw [List.mem_map] at h
  obtain ⟨x, hx, rfl⟩ := h
  have : ns.idxOf x < nums.length := by rw [hl]; exact List.idxOf_lt_length_of_mem (hsub x hx)
  rw [List.getElem?_eq_getElem this]
  exact hN _ (List.getElem_mem this)
def valAt (r : Rl) (f : List Nat → List Rat) (ns : List Str) (nums : List Nat) : Rat := dot r.T (f (ownN r ns nums))
theorem s_told_at {r : Rl} {f : List Nat → List Rat} {N : Nat} {ns : List Str} {nums : List Nat} (hw : BIG ≤ w) (ht : Tells r f N) (hn : Nm ns) (hsub : ∀ x ∈ r.nm, x ∈ ns) (hl : nums.length = ns.length) (hN : ∀ n ∈ nums, n < 2 ^ N) (hN2 : N ≤ 10000) :
    callF pg w (k + 5) 17 [dR r, dN ns, .tup (dNat nums)] = M.pure (dQ (valAt r f ns nums)) := by
  rw [call_told_at]
  have h1 := s_values_at (w := w) (k := k) hw ht hn hsub hl hN hN2
  have h2 := s_added (w := w) (k := k + 2) (b := none) (b' := true) hw (ht.told _ (own_len r ns nums) (own_lt hsub hl hN))
  rw [show seqD none (r.T.map dQ) = dVec r.T from rfl] at h2
  simp [b_told_at, h1, h2, valAt]
/-- rules with what they tell -/
abbrev RF := Rl × (List Nat → List Rat)
def allAt (rs : List RF) (ns : List Str) (nums : List Nat) : List Rat := (rs.map fun r => r.2 (ownN r.1 ns nums)).flatten
def partAt (rs : List RF) (ns : List Str) (nums : List Nat) (i : Nat) : List Rat := ((rs.take i).map fun r => r.2 (ownN r.1 ns nums)).flatten
structure AllT (rs : List RF) (ns : List Str) (N : Nat) : Prop where
  nms : Nm ns
  each : ∀ r ∈ rs, Tells r.1 r.2 N ∧ ∀ x ∈ r.1.nm, x ∈ ns
  few : ∀ x, (allAt rs ns x).length ≤ 1000
  big : N ≤ 10000
theorem s_all_values_at {rs : List RF} {ns : List Str} {N : Nat} {nums : List Nat} {b : Option Bool} (hw : BIG ≤ w) (h : AllT rs ns N) (hl : nums.length = ns.length) (hN : ∀ n ∈ nums, n < 2 ^ N) :
    callF pg w (k + 5) 18 [seqD b (rs.map fun r => dR r.1), dN ns, .tup (dNat nums)] = M.pure (.lst true ((allAt rs ns nums).map dQ)) := by
  rw [call_all_values_at]
  simp [b_all_values_at, itSeq_seq, need_len, toLine]
  refine Ret.eq ?_
  have lens : ∀ i, (partAt rs ns nums i).length ≤ 1000 := fun i => by
    refine Nat.le_trans ?_ (h.few nums)
    unfold allAt partAt
    rw [← List.take_append_drop i rs, List.map_append, List.flatten_append, List.length_append, List.take_append_drop]
    exact Nat.le_add_right _ _
  refine forL_pos_ret (e := fun r : RF => dR r.1) (fun (v : List Rat) (j : Slot) => [.val (seqD b (rs.map fun r => dR r.1)), .val (dN ns), .val (.tup (dNat nums)), .val (.lst true (v.map dQ)), j])
    (xs := rs) (fun i => partAt rs ns nums i) (j := .un) ?_ ?_
  · intro i hi j
    obtain ⟨ht, hsub⟩ := h.each _ (List.getElem_mem hi)
    have h1 := s_values_at (w := w) (k := k) hw ht h.nms hsub hl hN h.big
    have e : partAt rs ns nums (i + 1) = partAt rs ns nums i ++ rs[i].2 (ownN rs[i].1 ns nums) := by
      unfold partAt
      rw [List.take_succ, List.getElem?_eq_getElem hi, List.map_append, List.flatten_append]
      simp
    have hl2 := lens (i + 1)
    rw [e, List.length_append] at hl2
    rw [e]
    simp [h1]
    rw [binD_addL (by rw [List.length_map, List.length_map]; exact toLine (by omega)), pure_bind']
    exact Ret.pure ⟨_, rfl⟩
  · intro j
    have : partAt rs ns nums rs.length = allAt rs ns nums := by unfold partAt allAt; rw [List.take_length]
    rw [this]
    simp
    exact Ret.pure rfl
/-! ### names together -/
def joinN (nss : List (List Str)) : List Str := nss.foldl (fun f ns => f ++ ns.filter fun x => !decide (x ∈ f)) []
structure EncS (ns : List Str) : Prop where
  ok : ∀ x ∈ ns, okS x = true
theorem notin_str {x : Str} {b : Bool} {ns : List Str} (hx : okS x = true) (h : ∀ y ∈ ns, okS y = true) : cmpD .NotIn (.str x) (.lst b (ns.map .str)) = M.pure (.bl (!decide (x ∈ ns))) := by
  refine cmpD_notin ?_
  have pys : ∀ ns : List Str, toPys (ns.map .str) = some (ns.map PyData.str) := by
    intro ns
    induction ns with
    | nil => rfl
    | cons x r ih => rw [List.map_cons]; unfold toPys; rw [ih]; rfl
  have dep : ∀ ns : List Str, PyData.depthAll (ns.map PyData.str) = 0 := by
    intro ns
    induction ns with
    | nil => rfl
    | cons x r ih => rw [List.map_cons]; unfold PyData.depthAll; rw [ih]; rfl
  have can : ∀ ns : List Str, (∀ y ∈ ns, okS y = true) → PyData.canLayAll0 (ns.map PyData.str) = true := by
    intro ns
    induction ns with
    | nil => intro _; rfl
    | cons x r ih =>
      intro h
      rw [List.map_cons]
      unfold PyData.canLayAll0
      rw [ih fun y hy => h y (List.mem_cons_of_mem _ hy), show PyData.canLay0 (.str x) = true from h x (List.mem_cons_self ..)]
      rfl
  have h1 : SeqAt.shaped (.str x) = true := by
    unfold SeqAt.shaped
    rw [show PyData.canLay0 (.str x) = true from hx]
    rfl
  have h2 : SeqAt.shaped (.list (ns.map PyData.str)) = true := by
    unfold SeqAt.shaped
    rw [show PyData.canLay0 (.list (ns.map PyData.str)) = true by unfold PyData.canLay0; exact can ns h, show PyData.depth (.list (ns.map PyData.str)) = 1 by unfold PyData.depth; rw [dep]]
    rfl
  rw [inD_lst rfl (pys ns) h1 h2]
  congr 1
  have any : ∀ ns : List Str, (ns.map PyData.str).any (fun z => PyData.eqv z (.str x)) = decide (x ∈ ns) := by
    intro ns
    induction ns with
    | nil => rfl
    | cons y r ih =>
      rw [List.map_cons, List.any_cons, ih]
      show ((y == x) || _) = _
      by_cases h : y = x
      · subst h; simp
      · have h' : ¬ x = y := fun e => h e.symm
        simp [h, h']
  exact any ns
theorem join_ok {nss : List (List Str)} (h : ∀ ns ∈ nss, ∀ x ∈ ns, okS x = true) : ∀ (f : List Str), (∀ x ∈ f, okS x = true) → ∀ x ∈ nss.foldl (fun f ns => f ++ ns.filter fun x => !decide (x ∈ f)) f, okS x = true := by
  induction nss with
  | nil => intro f hf; exact hf
  | cons ns nss ih =>
    intro f hf
    rw [List.foldl_cons]
    refine ih (fun ms hm => h ms (List.mem_cons_of_mem _ hm)) _ fun x hx => ?_
    rw [List.mem_append] at hx
    rcases hx with hx | hx
    · exact hf x hx
    · exact h ns (List.mem_cons_self ..) x (List.mem_filter.1 hx).1
theorem s_names_of {nss : List (List Str)} {b : Bool} (h : ∀ ns ∈ nss, (∀ x ∈ ns, okS x = true) ∧ ns.length ≤ 3) (hl : nss.length ≤ 10) :
    callF pg w (k + 1) 19 [.lst b (nss.map dN)] = M.pure (dN (sortS (joinN nss))) := by
  rw [call_names_of]
  simp [b_names_of, need_len, toLine]
  refine Ret.eq ?_
  have st : ∀ i, i ≤ nss.length → (joinN (nss.take i)).length ≤ 3 * i ∧ ∀ x ∈ joinN (nss.take i), okS x = true := by
    intro i hi
    refine ⟨?_, join_ok (fun ns hn => (h ns (List.mem_of_mem_take hn)).1) [] (by intro x hx; cases hx)⟩
    induction i with
    | zero => simp [joinN]
    | succ i ih =>
      have := ih (by omega)
      unfold joinN at this ⊢
      rw [List.take_succ, List.getElem?_eq_getElem (by omega), List.foldl_append]
      show (_ ++ List.filter _ nss[i]).length ≤ _
      rw [List.length_append]
      have h2 := (h nss[i] (List.getElem_mem (by omega))).2
      have h3 := List.length_filter_le (fun x => !decide (x ∈ (nss.take i).foldl (fun f ns => f ++ ns.filter fun x => !decide (x ∈ f)) [])) nss[i]
      omega
  refine forL_pos_ret (e := dN) (fun (v : List Str) (j : Slot) => [.val (.lst b (nss.map dN)), .val (.lst true (v.map .str)), j, .un])
    (xs := nss) (fun i => joinN (nss.take i)) (j := .un) ?_ ?_
  · intro i hi j
    obtain ⟨s1, s2⟩ := st i (Nat.le_of_lt hi)
    obtain ⟨h1, h2⟩ := h _ (List.getElem_mem hi)
    have e : joinN (nss.take (i + 1)) = joinN (nss.take i) ++ nss[i].filter fun x => !decide (x ∈ joinN (nss.take i)) := by
      unfold joinN
      rw [List.take_succ, List.getElem?_eq_getElem hi, List.foldl_append]
      rfl
    rw [e]
    generalize joinN (nss.take i) = f at *
    generalize nss[i] = ns at *
    simp
    rw [mapO_mapF (p := fun x => !decide (x ∈ f)) (g := D.str)]
    rotate_left
    · intro x hx
      rw [notin_str (h1 x hx) s2]
      by_cases e : x ∈ f <;> simp [e]
    have h3 := List.length_filter_le (fun x => !decide (x ∈ f)) ns
    rw [noX_pure, pure_bind', need_len (by rw [List.length_map]; exact toLine (by omega)), pure_bind', binD_addL (by rw [List.length_map, List.length_map]; exact toLine (by omega)), pure_bind', ← List.map_append]
    simp
    exact Ret.pure ⟨_, rfl⟩
  · intro j
    obtain ⟨s1, s2⟩ := st nss.length (Nat.le_refl _)
    rw [List.take_length] at s1 s2 ⊢
    simp
    rw [mapO_map (g := D.str)]
    rotate_left
    · intro x hx
      simp
    rw [noX_pure, pure_bind', need_len (by rw [List.length_map]; exact toLine (by omega)), pure_bind']
    have hs : bSorted [.lst true ((joinN nss).map .str)] = M.pure (.lst true ((sortS (joinN nss)).map .str)) := by
      have hint : asInts ((joinN nss).map D.str) = none ∨ joinN nss = [] := by
        cases joinN nss with
        | nil => exact .inr rfl
        | cons x r => exact .inl rfl
      have e : ∀ xs, bSorted [.lst true xs] = (ofOpt (sortD xs)).bind fun ys => M.pure (.lst true ys) := fun xs => rfl
      have : sortD ((joinN nss).map D.str) = some ((sortS (joinN nss)).map .str) := by
        rcases hint with h1 | h1
        · unfold sortD
          rw [h1, asStrs_map (fun x => x)]
          simp
          omega
        · rw [h1]; rfl
      rw [e, this]
      rfl
    simp [hs]
    exact Ret.pure rfl
end CK

set_option linter.all false
set_option autoImplicit false
set_option maxRecDepth 100000
set_option maxHeartbeats 1000000
namespace CK
open PySem PySem.Spec L2 Bc
variable {w k : Nat}
def tupLen : D → Nat
  | .tup xs => xs.length
  | _ => 0
theorem isNames_len {d : D} (h : isNames d = true) : ∃ xs, d = .tup xs ∧ xs.length ≤ 3 := by
  cases d with
  | tup xs =>
    refine ⟨xs, rfl, ?_⟩
    unfold isNames at h
    rw [Bool.and_eq_true] at h
    exact of_decide_eq_true h.1
  | _ => cases h
def shapeF (fs : List D) : Bool := decide (fs.length ≤ 100) && fs.all isW
def shapeT (n : D) (ss fs : List D) (t : D) : Bool := (isNames n && shapeF fs) && (decide (ss.length = 2 ^ tupLen n) && (ss.all (isSd fs.length) && isRw fs.length t))
def shapeB : D → Bool
  | .tup [n, .tup ss, .tup fs, t] => shapeT n ss fs t
  | _ => false
theorem shape_4 {n s f t : D} (h : (∃ ss fs, s = .tup ss ∧ f = .tup fs ∧ shapeT n ss fs t = true) → False) : shapeB (.tup [n, s, f, t]) = false := by
  cases e : shapeB (.tup [n, s, f, t]) with
  | false => rfl
  | true =>
    exfalso
    cases s <;> cases f <;> first | (cases e; done) | skip
    exact h ⟨_, _, rfl, rfl, e⟩
theorem s_all_whole {fs : List D} (h : ∀ d ∈ fs, plain d = true) {f : D → M (Option D)} (hf : ∀ d ∈ fs, f d = (callF pg w (k + 1) 0 [d]).bind fun y => M.pure (some y)) (hl : fs.length ≤ 1000) :
    (noX (mapO f fs)).bind (fun ys => (need (lenOk ys.length)).bind fun _ => bAll [.lst true ys]) = M.pure (.bl (fs.all isW)) := by
  rw [mapO_all (g := fun d => .bl (isW d)) fun d hd => by rw [hf d hd, s_is_whole (h d hd), pure_bind']]
  rw [noX_pure, pure_bind', List.length_map, need_len (toLine (by omega)), pure_bind', bAll_map]
def ruleM (w k : Nat) (n s f t : D) : M D := match s, f with
  | .tup ss, .tup fs => if shapeT n ss fs t then (ofOpt (ss[0]?)).bind fun x => (callF pg w (k + 4) 9 [.tup fs]).bind fun y => (callF pg w (k + 4) 11 [x, y]).bind fun a => (callF pg w (k + 4) 9 [.tup fs]).bind fun b => cmpD .Eq a b else M.pure (.bl false)
  | _, _ => M.pure (.bl false)
theorem s_rule_go {n s f t : D} (hn : plain n = true) (hs : plain s = true) (hf : plain f = true) (ht : plain t = true) (hw : BIG ≤ w) :
    callF pg w (k + 5) 8 [.tup [n, s, f, t]] = ruleM w k n s f t := by
  rw [call_is_plain_rule]
  simp only [b_is_plain_rule]
  cases hN : isNames n with
  | false =>
    have : ∀ ss fs, shapeT n ss fs t = false := fun ss fs => by unfold shapeT; rw [hN]; rfl
    simp [s_are_names hn, hN]
    cases s <;> cases f <;> first | rfl | simp [ruleM, this]
  | true =>
    obtain ⟨ns, rfl, hl⟩ := isNames_len hN
    cases f with
    | tup fs =>
      have hfs := plains_mem (show plains fs = true from hf)
      by_cases g1 : fs.length ≤ 100
      · have g1' : ¬ (100 : Int) < (fs.length : Int) := by omega
        have e1 := mapO_all (f := fun d => (callF pg w (k + 4) 0 [d]).bind fun y => M.pure (some y)) (xs := fs) (g := fun d => .bl (isW d)) fun d hd => by rw [s_is_whole (hfs d hd), pure_bind']
        cases g2 : fs.all isW with
        | false =>
          have : ∀ ss, shapeT (.tup ns) ss fs t = false := fun ss => by unfold shapeT shapeF; rw [g2]; simp
          simp [s_are_names hn, hN, g1', e1, need_len, toLine (show fs.length ≤ 16777216 by omega), bAll_map, g2]
          cases s <;> first | rfl | simp [ruleM, this]
        | true =>
          cases s with
          | tup ss =>
            have hss := plains_mem (show plains ss = true from hs)
            have er := s_rows (w := w) (k := k + 3) hl
            have el : ((rowsL ns.length).map dRow).length = 2 ^ ns.length := by rw [List.length_map, rowsL_len hl]
            have h8 : 2 ^ ns.length ≤ 8 := Nat.pow_le_pow_right (n := 2) (by decide) hl
            by_cases g3 : ss.length = 2 ^ ns.length
            · have e2 := mapO_all (f := fun d => (callF pg w (k + 4) 6 [d, .int (fs.length : Nat)]).bind fun y => M.pure (some y)) (xs := ss) (g := fun d => .bl (isSd fs.length d)) fun d hd => by rw [s_is_side (hss d hd) (by omega) hw, pure_bind']
              have e3 := s_is_row (w := w) (k := k + 1) (n := fs.length) ht (by omega) hw
              have g3' : (ss.length : Int) = (2 : Int) ^ ns.length := by rw [g3]; simp
              cases g4 : ss.all (isSd fs.length) with
              | false =>
                have : shapeT (.tup ns) ss fs t = false := by unfold shapeT; rw [g4]; simp
                simp [s_are_names hn, hN, g1', e1, need_len, toLine (show fs.length ≤ 16777216 by omega), bAll_map, g2, ruleM, this, er, rowsL_len hl, g3', e2, toLine (show ss.length ≤ 16777216 by omega), g4]
              | true =>
                cases g5 : isRw fs.length t with
                | false =>
                  have : shapeT (.tup ns) ss fs t = false := by unfold shapeT; rw [g5]; simp
                  simp [s_are_names hn, hN, g1', e1, need_len, toLine (show fs.length ≤ 16777216 by omega), bAll_map, g2, ruleM, this, er, rowsL_len hl, g3', e2, toLine (show ss.length ≤ 16777216 by omega), g4, e3, g5]
                | true =>
                  have : shapeT (.tup ns) ss fs t = true := by unfold shapeT shapeF; rw [hN, g2, g4, g5, decide_eq_true g1, decide_eq_true (show ss.length = 2 ^ tupLen (.tup ns) from g3)]; rfl
                  simp [s_are_names hn, hN, g1', e1, need_len, toLine (show fs.length ≤ 16777216 by omega), bAll_map, g2, ruleM, this, er, rowsL_len hl, g3', e2, toLine (show ss.length ≤ 16777216 by omega), g4, e3, g5]
            · have : shapeT (.tup ns) ss fs t = false := by
                unfold shapeT
                rw [decide_eq_false (show ¬ ss.length = 2 ^ tupLen (.tup ns) from g3)]
                simp
              have g3' : ¬ (ss.length : Int) = (2 : Int) ^ ns.length := fun e => by
                have e2 : ((ss.length : Nat) : Int) = ((2 ^ ns.length : Nat) : Int) := by rw [e]; simp
                exact g3 (Int.ofNat_inj.1 e2)
              simp [s_are_names hn, hN, g1', e1, need_len, toLine (show fs.length ≤ 16777216 by omega), bAll_map, g2, ruleM, this, er, rowsL_len hl, g3']
          | _ => first | (simp [s_are_names hn, hN, g1', e1, need_len, toLine (show fs.length ≤ 16777216 by omega), bAll_map, g2, ruleM]; done) | (unfold plain at hs; cases hs)
      · have : ∀ ss, shapeT (.tup ns) ss fs t = false := fun ss => by unfold shapeT shapeF; rw [decide_eq_false g1]; simp
        simp [s_are_names hn, hN, show (100 : Int) < (fs.length : Int) by omega]
        cases s <;> first | rfl | simp [ruleM, this]
    | _ => first | (simp [s_are_names hn, hN, ruleM]; done) | (simp [s_are_names hn, hN]; cases s <;> rfl) | (unfold plain at hf; cases hf)
theorem s_rule_no {d : D} (h : plain d = true) (hw : BIG ≤ w) (hs : shapeB d = false) : callF pg w (k + 5) 8 [d] = M.pure (.bl false) := by
  cases d with
  | tup xs =>
    have h := plains_mem (show plains xs = true from h)
    by_cases h1 : xs.length = 4
    · match xs, h1, h, hs with
      | [n, s, f, t], _, h, hs =>
        rw [s_rule_go (h n (by simp)) (h s (by simp)) (h f (by simp)) (h t (by simp)) hw]
        clear h
        cases s with
        | tup ss => cases f with
          | tup fs =>
            have hs : shapeT n ss fs t = false := hs
            simp [ruleM, hs]
          | _ => rfl
        | _ => rfl
    · rw [call_is_plain_rule]
      simp [b_is_plain_rule, show ¬ (xs.length : Int) = 4 by omega]
  | _ => first | (rw [call_is_plain_rule]; simp [b_is_plain_rule]; done) | (unfold plain at h; cases h)
/-- the sides' and rows' lengths -/
structure Shp (r : Rl) : Prop where
  nms : Nm r.nm
  sides : r.S.length = 2 ^ r.nm.length
  few : r.F.length ≤ 100
  each : ∀ M0 ∈ r.S, M0.length = r.F.length ∧ ∀ rs ∈ M0, rs.length = r.F.length
  told : r.T.length = r.F.length
theorem isNames_dN {ns : List Str} (h : Nm ns) : isNames (dN ns) = true := by
  show (decide ((ns.map D.str).length ≤ 3) && ((ns.map D.str).all isWord && (match asStrs (ns.map .str) with
    | some ss => ascB ltS ss
    | none => false))) = true
  have h1 := h.len
  have h2 : (ns.map D.str).all isWord = true := by
    rw [List.all_map, List.all_eq_true]
    intro x hx
    exact h.word x hx
  rw [asStrs_map (fun x => x), h2, decide_eq_true (by rw [List.length_map]; omega)]
  simp [h.asc]
theorem Shp.shape {r : Rl} (h : Shp r) : shapeT (dN r.nm) (r.S.map dSide) (r.F.map .int) (dVec r.T) = true := by
  unfold shapeT shapeF
  have h1 : (r.F.map D.int).all isW = true := by
    rw [List.all_map, List.all_eq_true]
    intro x hx
    rfl
  have h2 : tupLen (dN r.nm) = r.nm.length := by
    show (r.nm.map D.str).length = _
    rw [List.length_map]
  have h3 : (r.S.map dSide).all (isSd (r.F.map D.int).length) = true := by
    rw [List.all_map, List.all_eq_true]
    intro M0 hM
    rw [List.length_map]
    exact isSd_map (h.each M0 hM).1 (h.each M0 hM).2
  have h4 : isRw (r.F.map D.int).length (dVec r.T) = true := by
    rw [List.length_map, ← h.told]
    exact isRw_dVec r.T
  rw [isNames_dN h.nms, h1, h2, h3, h4, decide_eq_true (show (r.F.map D.int).length ≤ 100 by rw [List.length_map]; exact h.few), decide_eq_true (show (r.S.map dSide).length = 2 ^ r.nm.length by rw [List.length_map]; exact h.sides)]
  rfl
theorem s_rule_yes {r : Rl} (h : Shp r) (hp : plain (dR r) = true) (hw : BIG ≤ w) {M0 : List (List Rat)} (h0 : r.S[0]? = some M0) (hf : ∀ rs ∈ M0, FineP (rs.zip (firstsQ r))) :
    callF pg w (k + 5) 8 [dR r] = M.pure (.bl (decide (M0.map (fun rs => dot rs (firstsQ r)) = firstsQ r))) := by
  have hp := plains_mem (show plains [dN r.nm, .tup (r.S.map dSide), .tup (r.F.map .int), dVec r.T] = true from hp)
  show callF pg w (k + 5) 8 [.tup [dN r.nm, .tup (r.S.map dSide), .tup (r.F.map .int), dVec r.T]] = _
  rw [s_rule_go (hp _ (by simp)) (hp _ (by simp)) (hp _ (by simp)) (hp _ (by simp)) hw]
  have hfew := h.few
  have e2 := s_begun (w := w) (k := k + 3) (b := none) (ns := r.F) (by omega)
  rw [show seqD none (r.F.map D.int) = .tup (r.F.map D.int) from rfl, show (r.F.map fun n : Int => dQ n) = (firstsQ r).map dQ by unfold firstsQ; rw [List.map_map]; rfl] at e2
  have e3 : (r.S.map dSide)[0]? = some (dSide M0) := by rw [List.getElem?_map, h0]; rfl
  have hM := h.each M0 (List.mem_of_getElem? h0)
  have e4 := s_applied (w := w) (k := k + 1) (b := true) hw (by omega) hf
  rw [show D.tup (M0.map dVec) = dSide M0 from rfl] at e4
  unfold ruleM
  simp only [h.shape, if_true, e3, ofOpt_some', pure_bind', e2, e4]
  exact (encQ.lst true).eq (by decide) _ _
end CK

set_option linter.all false
set_option autoImplicit false
set_option maxRecDepth 100000
set_option maxHeartbeats 1000000
namespace CK
open PySem PySem.Spec L2 Bc
variable {w k : Nat}
/-! ### points -/
def encRow : Enc dRow 1 := Enc.nat.tup
def toI (x : List Nat) : List Int := x.map fun n : Nat => (n : Int)
def aheadB (x y : List Nat) : Bool := if maxBits x 0 = maxBits y 0 then HT.lexLt (toI x) (toI y) else decide (maxBits x 0 < maxBits y 0)
theorem lt_row (x y : List Nat) : cmpD .Lt (dRow x) (dRow y) = M.pure (.bl (HT.lexLt (toI x) (toI y))) := by
  have e : ∀ xs ys : List D, cmpD .Lt (.tup xs) (.tup ys) = (ofOpt (ltD (.tup xs) (.tup ys))).bind fun b => M.pure (.bl b) := fun xs ys => rfl
  have e2 : ltD (dRow x) (dRow y) = some (HT.lexLt (toI x) (toI y)) := by
    show (match asInts (dNat x), asInts (dNat y) with | some x, some y => some (HT.lexLt x y) | _, _ => none) = _
    unfold dNat toI
    rw [asInts_map (fun n : Nat => (n : Int)), asInts_map (fun n : Nat => (n : Int))]
  unfold dRow at *
  rw [e, e2]; rfl
theorem len_row {x : List Nat} : callF pg w (k + 1) 15 [dRow x] = M.pure (.int (maxBits x 0 : Nat)) := s_length_of (b := none)
theorem s_is_ahead {x y : List Nat} : callF pg w (k + 2) 21 [dRow x, dRow y] = M.pure (.bl (aheadB x y)) := by
  rw [call_is_ahead]
  simp [b_is_ahead, len_row, lt_row, need_len, toLine, aheadB]
  by_cases h : maxBits x 0 = maxBits y 0
  · simp [h]
  · have h' : ¬ ((maxBits x 0 : Nat) : Int) = (maxBits y 0 : Nat) := by omega
    simp [h, h']
def isN : D → Bool
  | .int i => decide (0 ≤ i)
  | _ => false
def isPt (n : Nat) : D → Bool
  | .tup xs => decide (xs.length = n) && xs.all isN
  | _ => false
theorem s_is_point {d : D} {n : Nat} (h : plain d = true) (hn : n ≤ 1000) : callF pg w (k + 2) 22 [d, .int (n : Nat)] = M.pure (.bl (isPt n d)) := by
  rw [call_is_point]
  cases d with
  | tup xs =>
    have h := plains_mem (show plains xs = true from h)
    by_cases h1 : xs.length = n
    · simp [b_is_point, h1]
      rw [mapO_all (g := fun d => .bl (isN d)) fun d hd => by
        simp [s_is_whole (h d hd)]
        cases d <;> first | rfl | simp [isW, isN]]
      simp [need_len, h1, toLine (show n ≤ 16777216 by omega), bAll_map, isPt]
    · simp [b_is_point, isPt, h1, show ¬ (xs.length : Int) = (n : Int) by omega]
  | _ => first | (simp [b_is_point, isPt]; done) | (unfold plain at h; cases h)
theorem isPt_get {n : Nat} {d : D} (h : isPt n d = true) : ∃ x, d = dRow x ∧ x.length = n := by
  cases d with
  | tup xs =>
    have h : (decide (xs.length = n) && xs.all isN) = true := h
    rw [Bool.and_eq_true] at h
    have h1 := of_decide_eq_true h.1
    obtain ⟨rs, rfl, hl, _⟩ := lift_map (g := fun n : Nat => D.int n) (G := fun _ => True) fun y hy => by
      have h2 := List.all_eq_true.1 h.2 y hy
      cases y with
      | int i =>
        have h2 : (0 : Int) ≤ i := of_decide_eq_true h2
        exact ⟨i.toNat, by rw [show ((i.toNat : Nat) : Int) = i by omega], trivial⟩
      | _ => cases h2
    exact ⟨rs, rfl, by rw [hl]; exact h1⟩
  | _ => cases h
theorem isPt_row (x : List Nat) : isPt x.length (dRow x) = true := by
  show (decide ((dNat x).length = x.length) && (dNat x).all isN) = true
  unfold dNat
  rw [List.length_map, decide_eq_true rfl, List.all_map, Bool.true_and, List.all_eq_true]
  intro q hq
  exact decide_eq_true (Int.natCast_nonneg q)
def asNats : List D → Option (List Nat)
  | [] => some []
  | .int i :: r => (asNats r).map (i.toNat :: ·)
  | _ => none
def asRow : D → Option (List Nat)
  | .tup xs => asNats xs
  | _ => none
def asRows : List D → Option (List (List Nat))
  | [] => some []
  | d :: r => match asRow d, asRows r with
    | some a, some b => some (a :: b)
    | _, _ => none
theorem asNats_map (x : List Nat) : asNats (dNat x) = some x := by
  unfold dNat
  induction x with
  | nil => rfl
  | cons n x ih =>
    rw [List.map_cons]
    unfold asNats
    rw [ih]
    simp
@[simp] theorem asRow_row (x : List Nat) : asRow (dRow x) = some x := asNats_map x
@[simp] theorem asRows_map (ps : List (List Nat)) : asRows (ps.map dRow) = some ps := by
  induction ps with
  | nil => rfl
  | cons n x ih =>
    rw [List.map_cons]
    unfold asRows
    rw [ih, asRow_row]
def isPts (n : Nat) : D → Bool
  | .tup xs => decide (xs.length ≤ 200) && (xs.all (isPt n) && (match asRows xs with
    | some ps => ascB aheadB ps
    | none => false))
  | _ => false
theorem pts_lift {n : Nat} {xs : List D} (h : xs.all (isPt n) = true) : ∃ ps : List (List Nat), xs = ps.map dRow ∧ ps.length = xs.length ∧ ∀ p ∈ ps, p.length = n :=
  lift_map (g := dRow) (G := fun x => x.length = n) fun y hy => isPt_get (List.all_eq_true.1 h y hy)
theorem s_are_points {d : D} {n : Nat} (h : plain d = true) (hn : n ≤ 1000) : callF pg w (k + 3) 23 [d, .int (n : Nat)] = M.pure (.bl (isPts n d)) := by
  rw [call_are_points]
  cases d with
  | tup xs =>
    have h := plains_mem (show plains xs = true from h)
    by_cases h1 : xs.length ≤ 200
    · simp [b_are_points, h1, Bc.wipe, show ¬ (200 : Int) < xs.length by omega]
      rw [mapO_all (g := fun d => .bl (isPt n d)) fun d hd => by rw [s_is_point (h d hd) hn]; rfl]
      cases h2 : xs.all (isPt n) with
      | true =>
        simp [need_len, toLine (show xs.length ≤ 16777216 by omega), bAll_map, h2]
        obtain ⟨ps, rfl, hl, hp⟩ := pts_lift h2
        have h3 : isPts n (.tup (ps.map dRow)) = ascB aheadB ps := by
          show (decide ((ps.map dRow).length ≤ 200) && ((ps.map dRow).all (isPt n) && (match asRows (ps.map dRow) with
            | some ps => ascB aheadB ps
            | none => false))) = _
          rw [h2, decide_eq_true h1, asRows_map]
          simp
        rw [List.length_map] at h1
        rw [h3, List.length_map, itR2_1 (to62 (by omega)), pure_bind']
        rw [mapO_map (g := fun m => .bl (ltO aheadB ps[m]? ps[m + 1]?))]
        · simp [need_len, toLine (show ps.length - 1 ≤ 16777216 by omega), bAll_map]
          rw [ascB]
        · intro m hm
          rw [List.mem_range] at hm
          simp
          rw [show (((m : Nat) : Int) + 1) = ((m + 1 : Nat) : Int) by omega, atI_ofNat, atI_ofNat]
          have h4 : m < ps.length := by omega
          have h5 : m + 1 < ps.length := by omega
          simp [h4, h5, ltO, s_is_ahead]
      | false => simp [need_len, toLine (show xs.length ≤ 16777216 by omega), bAll_map, h2, isPts]
    · simp [b_are_points, isPts, h1, show (200 : Int) < xs.length by omega]
  | _ => first | (simp [b_are_points, isPts]; done) | (unfold plain at h; cases h)
theorem isPts_get {n : Nat} {d : D} (h : isPts n d = true) : ∃ ps : List (List Nat), d = .tup (ps.map dRow) ∧ ps.length ≤ 200 ∧ (∀ p ∈ ps, p.length = n) ∧ ascB aheadB ps = true := by
  cases d with
  | tup xs =>
    have h : (decide (xs.length ≤ 200) && (xs.all (isPt n) && (match asRows xs with
      | some ps => ascB aheadB ps
      | none => false))) = true := h
    rw [Bool.and_eq_true, Bool.and_eq_true] at h
    obtain ⟨ps, rfl, hl, hp⟩ := pts_lift h.2.1
    have h1 := of_decide_eq_true h.1
    have h2 := h.2.2
    rw [asRows_map] at h2
    exact ⟨ps, rfl, by rw [hl]; exact h1, hp, h2⟩
  | _ => cases h
theorem isPts_map {n : Nat} {ps : List (List Nat)} (h1 : ps.length ≤ 200) (h2 : ∀ p ∈ ps, p.length = n) : isPts n (.tup (ps.map dRow)) = ascB aheadB ps := by
  show (decide ((ps.map dRow).length ≤ 200) && ((ps.map dRow).all (isPt n) && (match asRows (ps.map dRow) with
    | some ps => ascB aheadB ps
    | none => false))) = _
  have : (ps.map dRow).all (isPt n) = true := by
    rw [List.all_map, List.all_eq_true]
    intro p hp
    rw [← h2 p hp]
    exact isPt_row p
  rw [this, asRows_map, decide_eq_true (by rw [List.length_map]; exact h1)]
  simp
/-! ### how a span begins -/
def endD : Option (List Nat) → D
  | none => .non
  | some e => dRow e
theorem eq_row (x y : List Nat) : cmpD .Eq (dRow x) (dRow y) = M.pure (.bl (decide (x = y))) := encRow.eq (by decide) x y
theorem eq_end (e : Option (List Nat)) (z : List Nat) : cmpD .Eq (endD e) (dRow z) = M.pure (.bl (decide (e = some z))) := by
  cases e with
  | none =>
    refine (cmpD_eq (b := false) ?_).trans (by simp)
    exact (eqD_of (d := PyData.none) rfl (encRow.hpy z) rfl (encRow.shaped (by decide) z)).trans rfl
  | some e => exact (eq_row e z).trans (by simp)
theorem flatO_map {α : Type} {f : D → M (List D)} {e : α → D} {g : α → List D} : ∀ {xs : List α}, (∀ x ∈ xs, f (e x) = M.pure (g x)) → flatO f (xs.map e) = M.pure (xs.map g).flatten
  | [], _ => rfl
  | x :: xs, h => by
    rw [List.map_cons]
    unfold flatO
    rw [h x (List.mem_cons_self ..), flatO_map fun y hy => h y (List.mem_cons_of_mem _ hy)]
    rfl
def beginB (ps : List (List Nat)) (rs : List Rl) (z : List Nat) (e : Option (List Nat)) : Bool := (decide (ps.head? = some z) || decide (e = some z)) || rs.all fun r => r.F.all fun i => decide (i = 0)
theorem s_begins {ps : List (List Nat)} {rs : List Rl} {z : List Nat} {e : Option (List Nat)} {b : Option Bool} (h : (rs.map fun r => r.F.length).sum ≤ 16777216) (hl : ps.length ≤ 200) :
    callF pg w (k + 1) 24 [.tup (ps.map dRow), seqD b (rs.map dR), dRow z, endD e] = M.pure (.bl (beginB ps rs z e)) := by
  rw [call_begins]
  have e1 : flatO (fun d => (asgT (cl w k) (.nm 4) d [.val (.tup (ps.map dRow)), .val (seqD b (rs.map dR)), .val (dRow z), .val (endD e), .un, .un]).bind fun env1 => (evEs (cl w k) (.cons (.sub (.var 4) (.int 2)) .nil) env1).bind fun ds1 => (itSeq ds1).bind fun items1 => mapO (fun d1 => (asgT (cl w k) (.nm 5) d1 (Bc.wipe env1 [5])).bind fun env2 => (evE (cl w k) (.cmp .Eq (.var 5) (.int 0)) env2).bind fun y => M.pure (some y)) items1) (rs.map dR) = M.pure (rs.map fun r => r.F.map fun i => D.bl (decide (i = 0))).flatten := by
    refine flatO_map fun r hr => ?_
    simp
    rw [mapO_map (g := fun i => D.bl (decide (i = 0)))]
    intro i hi
    simp
  have e2 : (rs.map fun r => r.F.map fun i => D.bl (decide (i = 0))).flatten = ((rs.map fun r => r.F).flatten.map fun i => D.bl (decide (i = 0))) := by
    rw [List.map_flatten, List.map_map]; rfl
  have e3 : ((rs.map fun r => r.F).flatten).length ≤ 16777216 := by
    rw [List.length_flatten, List.map_map]; exact h
  have e4 : ((rs.map fun r => r.F).flatten.all fun i => decide (i = 0)) = rs.all fun r => r.F.all fun i => decide (i = 0) := by
    rw [List.all_flatten, List.all_map]; rfl
  obtain ⟨xs, hx⟩ : ∃ xs, xs = (rs.map fun r => r.F).flatten := ⟨_, rfl⟩
  rw [e2, ← hx] at e1
  rw [← hx] at e3 e4
  simp at e1
  cases ps with
  | nil =>
    simp [b_begins, eq_end, beginB]
    by_cases h1 : e = some z
    · simp [h1]
    · simp [h1, itSeq_seq, e1]
      rw [need_len (toLine e3), pure_bind', bAll_map, e4]
  | cons p ps =>
    have h0' : (0 : Int) < (ps.length : Int) + 1 := by omega
    simp [b_begins, eq_end, eq_row, beginB, h0']
    by_cases h2 : p = z
    · simp [h2]
    · by_cases h1 : e = some z
      · simp [h1, h2]
      · simp [h1, h2, itSeq_seq, e1]
        rw [need_len (toLine e3), pure_bind', bAll_map, e4]
end CK

set_option linter.all false
set_option autoImplicit false
set_option maxRecDepth 100000
set_option maxHeartbeats 1000000
namespace CK
open PySem PySem.Spec L2 Bc
variable {w k : Nat}
/-! ### sums that stay small -/
structure Tiny (a b : Nat) (p : Rat × Rat) : Prop where
  dn : p.1.den < 2 ^ a
  nm : Lt2 p.1.num a
  one : p.2.den = 1
  vm : Lt2 p.2.num b
theorem lt2_nat {n a : Nat} (h : n < 2 ^ a) : Lt2 (n : Int) a := by
  unfold Lt2
  rw [Int.natAbs_natCast]
  exact h
theorem natAbs_div_le (n : Int) (g : Nat) : (n / (g : Int)).natAbs ≤ n.natAbs := by
  have := Int.natAbs_ediv_le_natAbs n (g : Int)
  exact this
theorem dotP_small {ps : List (Rat × Rat)} {a b : Nat} (h : ∀ p ∈ ps, Tiny a b p) : ∀ i, i ≤ ps.length → (dotP (ps.take i)).den < 2 ^ (a * i + 1) ∧ Lt2 (dotP (ps.take i)).num (a * i + b + 2 * i)
  | 0, _ => by
    rw [List.take_zero]
    refine ⟨?_, ?_⟩
    · show 1 < 2 ^ (a * 0 + 1)
      rw [Nat.mul_zero]; decide
    · show (0 : Nat) < _
      exact Nat.pow_pos (by decide)
  | i + 1, hi => by
    obtain ⟨h1, h2⟩ := dotP_small h i (by omega)
    have hi : i < ps.length := hi
    rw [dotP_take hi]
    have hp := h _ (List.getElem_mem hi)
    generalize dotP (ps.take i) = q at *
    generalize ps[i] = p at *
    obtain ⟨r, v⟩ := p
    obtain ⟨p1, p2, p3, p4⟩ := hp
    have p1 : r.den < 2 ^ a := p1
    have p2 : Lt2 r.num a := p2
    have p3 : v.den = 1 := p3
    have p4 : Lt2 v.num b := p4
    show (q + r * v).den < _ ∧ Lt2 (q + r * v).num _
    have e := step_eq q r v
    rw [p3, Nat.mul_one] at e
    have hd0 : 0 < q.den * r.den := Nat.mul_pos q.den_pos r.den_pos
    have hn := Rat.num_mkRat (q.num * r.den * (1 : Nat) + r.num * v.num * q.den) (q.den * r.den)
    have hd := Rat.den_mkRat (q.num * r.den * (1 : Nat) + r.num * v.num * q.den) (q.den * r.den)
    rw [← e, if_neg (Nat.ne_of_gt hd0)] at hn hd
    constructor
    · rw [hd]
      refine Nat.lt_of_le_of_lt (Nat.div_le_self _ _) ?_
      rw [show a * (i + 1) + 1 = (a * i + 1) + a by rw [Nat.mul_add]; omega, Nat.pow_add]
      exact Nat.mul_lt_mul'' h1 p1
    · rw [hn]
      have n1 := h2.mul (lt2_nat p1)
      have n2 := (p2.mul p4).mul (lt2_nat h1)
      rw [show ((1 : Nat) : Int) = 1 from rfl, Int.mul_one]
      have n3 := (n1.mono (m := a * (i + 1) + b + 2 * i + 1) (by rw [Nat.mul_add]; omega)).add (n2.mono (by rw [Nat.mul_add]; omega))
      unfold Lt2 at n3 ⊢
      refine Nat.lt_of_le_of_lt (natAbs_div_le _ _) (Nat.lt_of_lt_of_le n3 (Nat.pow_le_pow_right (by decide) (by omega)))
theorem fineP_of {ps : List (Rat × Rat)} {a b : Nat} (h : ∀ p ∈ ps, Tiny a b p) (hb : a * ps.length + b + 2 * ps.length ≤ 1499) (ha : a ≤ 1499) : FineP ps := by
  refine ⟨fun p hp => ?_, fun i hi => ?_⟩
  · obtain ⟨p1, p2, p3, p4⟩ := h p hp
    refine ⟨⟨p2.mono (by omega), Nat.lt_of_lt_of_le p1 (Nat.pow_le_pow_right (by decide) (by omega))⟩, ⟨p4.mono (by omega), by rw [p3]; exact Nat.one_lt_two_pow (by decide)⟩⟩
  · obtain ⟨h1, h2⟩ := dotP_small h i hi
    have h3 : a * i ≤ a * ps.length := Nat.mul_le_mul_left a hi
    exact ⟨h2.mono (by omega), Nat.lt_of_lt_of_le h1 (Nat.pow_le_pow_right (by decide) (by omega))⟩
mutual
/-- no integer in it is large -/
def small : D → Bool
  | .int i => decide (i.natAbs < 2 ^ 100)
  | .tup xs => smalls xs
  | .lst _ xs => smalls xs
  | _ => true
def smalls : List D → Bool
  | [] => true
  | x :: xs => small x && smalls xs
end
theorem smalls_mem {xs : List D} (h : smalls xs = true) : ∀ x ∈ xs, small x = true := by
  induction xs with
  | nil => intro x hx; cases hx
  | cons y xs ih =>
    unfold smalls at h
    rw [Bool.and_eq_true] at h
    intro x hx
    cases hx with
    | head => exact h.1
    | tail _ hx => exact ih h.2 x hx
theorem smalls_of {xs : List D} (h : ∀ x ∈ xs, small x = true) : smalls xs = true := by
  induction xs with
  | nil => rfl
  | cons y xs ih =>
    unfold smalls
    rw [h y (List.mem_cons_self ..), ih fun x hx => h x (List.mem_cons_of_mem _ hx)]
    rfl
theorem small_dQ {q : Rat} (h : small (dQ q) = true) : Lt2 q.num 100 ∧ q.den < 2 ^ 100 := by
  have h := smalls_mem (show smalls [.int q.num, .int (q.den : Nat)] = true from h)
  have h1 : small (.int q.num) = true := h _ (by simp)
  have h2 : small (.int (q.den : Nat)) = true := h _ (by simp)
  have h1 := of_decide_eq_true (show decide _ = true from h1)
  have h2 := of_decide_eq_true (show decide _ = true from h2)
  rw [Int.natAbs_natCast] at h2
  exact ⟨h1, h2⟩
theorem small_dVec {rs : List Rat} (h : small (dVec rs) = true) : ∀ q ∈ rs, Lt2 q.num 100 ∧ q.den < 2 ^ 100 := by
  have h := smalls_mem (show smalls (rs.map dQ) = true from h)
  intro q hq
  exact small_dQ (h _ (List.mem_map_of_mem hq))
theorem small_dRow {x : List Nat} (h : small (dRow x) = true) : ∀ n ∈ x, n < 2 ^ 100 := by
  have h := smalls_mem (show smalls (dNat x) = true from h)
  intro n hn
  have := h (.int (n : Nat)) (by unfold dNat; exact List.mem_map_of_mem hn)
  have := of_decide_eq_true (show decide _ = true from this)
  rw [Int.natAbs_natCast] at this
  exact this
/-! ### is_made -/
def asRats : List D → Option (List Rat)
  | [] => some []
  | .tup [.int a, .int b] :: r => (asRats r).map (mkRat a b.toNat :: ·)
  | _ => none
def asVec : D → Option (List Rat)
  | .tup xs => asRats xs
  | _ => none
@[simp] theorem asVec_dVec (rs : List Rat) : asVec (dVec rs) = some rs := by
  show asRats (rs.map dQ) = _
  induction rs with
  | nil => rfl
  | cons q r ih =>
    rw [List.map_cons]
    show (asRats (r.map dQ)).map (mkRat q.num (q.den : Int).toNat :: ·) = _
    rw [ih, Int.toNat_natCast, Rat.mkRat_self]
    rfl
def dCol (c : List Rat) : D := .lst true (c.map dQ)
def madeQ (ps : List (List Nat)) (cols : List (List Rat)) (t : List Nat) (due : List Rat) (rs : List Rat) : Bool :=
  ((rs.zip ps).all fun p => decide (p.1 = 0) || !aheadB t p.2) && ((List.range due.length).all fun i => decide (dot rs (cols.map fun c => (c[i]?).getD 0) = (due[i]?).getD 0))
def madeB (ps : List (List Nat)) (cols : List (List Rat)) (t : List Nat) (due : List Rat) (d : D) : Bool := isRw ps.length d && (match asVec d with
  | some rs => madeQ ps cols t due rs
  | none => false)
theorem eq_q (x y : Rat) : cmpD .Eq (dQ x) (dQ y) = M.pure (.bl (decide (x = y))) := encQ.eq (by decide) x y
theorem subD_q0 (q : Rat) : subD (dQ q) (.int 0) = M.pure (.int q.num) := (rfl)
theorem s_is_made {ps : List (List Nat)} {cols : List (List Rat)} {t : List Nat} {due : List Rat} {d : D} (hp : plain d = true) (hs : small d = true) (hw : BIG ≤ w) (h8 : ps.length ≤ 8) (hc : cols.length = ps.length)
    (hcol : ∀ c ∈ cols, c.length = due.length ∧ ∀ v ∈ c, v.den = 1 ∧ Lt2 v.num 210) (hd : due.length ≤ 1000) :
    callF pg w (k + 4) 25 [d, .tup (ps.map dRow), .lst true (cols.map dCol), dRow t, .lst true (due.map dQ)] = M.pure (.bl (madeB ps cols t due d)) := by
  rw [call_is_made]
  have e1 := s_is_row (w := w) (k := k) (n := ps.length) hp (by omega) hw
  cases h1 : isRw ps.length d with
  | false => simp [b_is_made, e1, h1, madeB]
  | true =>
    obtain ⟨rs, rfl, hl⟩ := isRw_get h1
    have hsm := small_dVec hs
    have ez : itZip [dVec rs, .tup (ps.map dRow)] = M.pure ((rs.zip ps).map fun p : Rat × List Nat => .tup [dQ p.1, dRow p.2]) := by
      have := itZip_tt (rs.map dQ) (ps.map dRow)
      rw [List.zip_map, List.map_map] at this
      exact this
    simp [b_is_made, e1, h1, ez, madeB]
    refine Ret.eq ?_
    refine forL_find_ret (e := fun p : Rat × List Nat => .tup [dQ p.1, dRow p.2]) (fun (j : Slot × Slot) => [.val (dVec rs), .val (.tup (ps.map dRow)), .val (.lst true (cols.map dCol)), .val (dRow t), .val (.lst true (due.map dQ)), j.1, j.2, .un, .un])
      (fun p => !decide (p.1 = 0) && aheadB t p.2) (.bl false) (xs := rs.zip ps) (j := (.un, .un)) ?_ ?_
    · intro p hp j Q hQ
      obtain ⟨r, y⟩ := p
      by_cases h0 : r = 0
      · subst h0
        simp [subD_q0]
        have := hQ (.val (dQ 0), .val (dRow y))
        simp at this
        exact Ret.pure this
      · have h0' : ¬ r.num = 0 := fun e => h0 (Rat.num_eq_zero.1 e)
        cases h2 : aheadB t y with
        | true =>
          simp [subD_q0, h0', s_is_ahead, h2]
          have := hQ (.val (dQ r), .val (dRow y))
          simp [h0, h2] at this
          exact Ret.pure this
        | false =>
          simp [subD_q0, h0', s_is_ahead, h2]
          have := hQ (.val (dQ r), .val (dRow y))
          simp [h0, h2] at this
          exact Ret.pure this
    · intro j
      have hany : ((rs.zip ps).any fun p => !decide (p.1 = 0) && aheadB t p.2) = !((rs.zip ps).all fun p => decide (p.1 = 0) || !aheadB t p.2) := by
        rw [List.any_eq_not_all_not]
        congr 2
        funext p
        simp
      rw [hany]
      unfold madeQ
      cases h3 : (rs.zip ps).all fun p => decide (p.1 = 0) || !aheadB t p.2 with
      | false =>
        simp
        exact Ret.pure rfl
      | true =>
        simp
        rw [itR1_nat (to62 (by omega)), pure_bind']
        rw [mapO_map (g := fun i : Nat => .bl (decide (dot rs (cols.map fun c => (c[i]?).getD 0) = (due[i]?).getD 0)))]
        rotate_left
        · intro i hi
          rw [List.mem_range] at hi
          simp
          rw [mapO_map (e := dCol) (g := fun c : List Rat => dQ ((c[i]?).getD 0))]
          rotate_left
          · intro c hcm
            obtain ⟨c1, c2⟩ := hcol c hcm
            have hi2 : i < c.length := by omega
            simp [dCol, atI_ofNat, hi2]
          rw [noX_pure, pure_bind', need_len (by rw [List.length_map]; exact toLine (by omega)), pure_bind']
          have e2 := s_added (w := w) (k := k + 1) (b := none) (b' := true) (rs := rs) (vs := cols.map fun c => (c[i]?).getD 0) hw (fineP_of (a := 100) (b := 210) (by
            intro p hp
            obtain ⟨h4, h5⟩ := List.of_mem_zip (a := p.1) (b := p.2) hp
            rw [List.mem_map] at h5
            obtain ⟨c, hcm, h5⟩ := h5
            obtain ⟨c1, c2⟩ := hcol c hcm
            have hi2 : i < c.length := by omega
            rw [List.getElem?_eq_getElem hi2] at h5
            have h5 : c[i] = p.2 := h5
            obtain ⟨c3, c4⟩ := c2 _ (List.getElem_mem hi2)
            rw [h5] at c3 c4
            obtain ⟨q1, q2⟩ := hsm p.1 h4
            exact ⟨q2, q1, c3, c4⟩) (by
              rw [List.length_zip, List.length_map]
              omega) (by decide))
          rw [show seqD none (rs.map dQ) = dVec rs from rfl, List.map_map] at e2
          have e3 : L2.atI (due.map dQ) (i : Int) = some (dQ ((due[i]?).getD 0)) := by
            rw [atI_ofNat, List.getElem?_map, List.getElem?_eq_getElem hi]; rfl
          rw [show (fun c : List Rat => dQ ((c[i]?).getD 0)) = dQ ∘ (fun c => (c[i]?).getD 0) from rfl, e2]
          simp [e3, eq_q]
        rw [noX_pure, pure_bind', need_len (by rw [List.length_map, List.length_range]; exact toLine (by omega)), pure_bind', bAll_map]
        exact Ret.pure rfl
end CK

set_option linter.all false
set_option autoImplicit false
set_option maxRecDepth 100000
set_option maxHeartbeats 1000000
namespace CK
open PySem PySem.Spec L2 Bc
variable {w k : Nat}
structure Cx where
  ns : List Str
  rs : List RF
  e : Option (List Nat)
structure CxOk (c : Cx) (N L : Nat) : Prop where
  all : AllT c.rs c.ns N
  wide : 102 ≤ N
  len : ∀ x : List Nat, x.length = c.ns.length → (∀ n ∈ x, n < 2 ^ N) → (allAt c.rs c.ns x).length = L
  fs : (c.rs.map fun r => r.1.F.length).sum ≤ 1000
  low : ∀ x : List Nat, x.length = c.ns.length → (∀ n ∈ x, n < 2 ^ 102) → ∀ v ∈ allAt c.rs c.ns x, v.den = 1 ∧ Lt2 v.num 210
def isNone : D → Bool
  | .non => true
  | _ => false
theorem is_non {d : D} (h : plain d = true) : cmpD .Is d .non = M.pure (.bl (isNone d)) := by
  cases d <;> first | rfl | (unfold plain at h; cases h)
theorem isnot_non {d : D} (h : plain d = true) : cmpD .IsNot d .non = M.pure (.bl (!isNone d)) := by
  cases d <;> first | rfl | (unfold plain at h; cases h)
def colsOf (c : Cx) (ps : List (List Nat)) : List (List Rat) := ps.map (allAt c.rs c.ns)
def shareB (c : Cx) (ps : List (List Nat)) (t : List Nat) (d : D) : Bool := if isNone d then (match c.e with
  | none => false
  | some e => !aheadB t e) else madeB ps (colsOf c ps) t (allAt c.rs c.ns t) d
def rowB (c : Cx) (ps : List (List Nat)) (x : List Nat) : D → Bool
  | .tup ss => decide (ss.length = 2 ^ c.ns.length) && (ss.zip (rowsL c.ns.length)).all fun p => shareB c ps (dbl x p.2) p.1
  | _ => false
theorem dbl_zip (x st : List Nat) : (x.zip st).map (fun p : Nat × Nat => D.int ((2 * p.1 + p.2 : Nat) : Int)) = dNat (dbl x st) := by
  unfold dNat dbl
  induction x generalizing st with
  | nil => rfl
  | cons n x ih => cases st with
    | nil => rfl
    | cons d st => rw [List.zip_cons_cons, List.map_cons, ih, List.zipWith_cons_cons, List.map_cons]
theorem dbl_lt {x st : List Nat} {N : Nat} (h : ∀ n ∈ x, n < 2 ^ N) (h' : ∀ d ∈ st, d ≤ 1) : ∀ n ∈ dbl x st, n < 2 ^ (N + 1) := by
  unfold dbl
  induction x generalizing st with
  | nil => intro n hn; cases hn
  | cons m x ih => cases st with
    | nil => intro n hn; cases hn
    | cons d st =>
      intro n hn
      rw [List.zipWith_cons_cons] at hn
      cases hn with
      | head =>
        have := h m (List.mem_cons_self ..)
        have := h' d (List.mem_cons_self ..)
        rw [Nat.pow_succ]
        omega
      | tail _ hn => exact ih (fun n hn => h n (List.mem_cons_of_mem _ hn)) (fun n hn => h' n (List.mem_cons_of_mem _ hn)) n hn
theorem dbl_len {x st : List Nat} (h : st.length = x.length) : (dbl x st).length = x.length := by
  unfold dbl
  rw [List.length_zipWith, h, Nat.min_self]
theorem lt_mono {x : List Nat} {N M0 : Nat} (h : ∀ n ∈ x, n < 2 ^ N) (l : N ≤ M0) : ∀ n ∈ x, n < 2 ^ M0 := fun n hn => Nat.lt_of_lt_of_le (h n hn) (Nat.pow_le_pow_right (by decide) l)
theorem end_none (e : Option (List Nat)) : cmpD .Is (endD e) .non = M.pure (.bl e.isNone) := by cases e <;> rfl
theorem end_some (e : Option (List Nat)) : cmpD .IsNot (endD e) .non = M.pure (.bl e.isSome) := by cases e <;> rfl
theorem rows_lens {n : Nat} (h : n ≤ 3) {st : List Nat} (hs : st ∈ rowsL n) : st.length = n ∧ ∀ d ∈ st, d ≤ 1 := rowsL_ok h st hs
theorem s_target {x st : List Nat} {env : Bc.Env} {f : D → M (Option D)} (hx : x.length ≤ 1000) (h : ∀ n ∈ x, n < 2 ^ 200) (hst : st.length = x.length) (hf : ∀ n d : Nat, f (.tup [.int n, .int d]) = (binD .Mult (.int 2) (.int n)).bind fun a => (binD .Add a (.int d)).bind fun y => M.pure (some y)) :
    noX (mapO f ((x.zip st).map fun p : Nat × Nat => D.tup [.int (p.1 : Nat), .int (p.2 : Nat)])) = M.pure (dNat (dbl x st)) ∧ need (lenOk (dNat (dbl x st)).length) = M.pure () := by
  rw [mapO_map (g := fun p : Nat × Nat => D.int ((2 * p.1 + p.2 : Nat) : Int))]
  rotate_left
  · intro p hp
    have hn := h p.1 (List.of_mem_zip (a := p.1) (b := p.2) hp).1
    rw [hf, binD_mul (mulL (n := 2) (m := 200) (show (2 : Int).natAbs < 2 ^ 2 by decide) (lt2_nat hn) (by decide)), pure_bind', binD_add, pure_bind']
    simp
  rw [noX_pure, dbl_zip]
  have : (dNat (dbl x st)).length ≤ 1000 := by unfold dNat; rw [List.length_map, dbl_len hst]; exact hx
  exact ⟨rfl, need_len (toLine (by omega))⟩
theorem zip_rows (x st : List Nat) : itZip [dRow x, dRow st] = M.pure ((x.zip st).map fun p : Nat × Nat => D.tup [.int (p.1 : Nat), .int (p.2 : Nat)]) := by
  have := itZip_tt (dNat x) (dNat st)
  unfold dNat at this
  rw [List.zip_map, List.map_map] at this
  exact this
theorem s_has_rows {c : Cx} {N L : Nat} {b : Option Bool} (h : CxOk c N L) {ps : List (List Nat)} {x : List Nat} {d : D} (hp : plain d = true) (hs : small d = true) (hw : BIG ≤ w) (h8 : ps.length ≤ 8)
    (hps : ∀ p ∈ ps, p.length = c.ns.length ∧ ∀ n ∈ p, n < 2 ^ 100) (hx : x.length = c.ns.length) (hxn : ∀ n ∈ x, n < 2 ^ 100) :
    callF pg w (k + 6) 26 [d, dRow x, .tup (ps.map dRow), .lst true ((colsOf c ps).map dCol), seqD b (c.rs.map fun r => dR r.1), dN c.ns, endD c.e] = M.pure (.bl (rowB c ps x d)) := by
  rw [call_has_rows]
  have h3 : c.ns.length ≤ 3 := h.all.nms.len
  have hr := s_rows (w := w) (k := k + 4) h3
  have hlr : ((rowsL c.ns.length).map dRow).length = 2 ^ c.ns.length := by rw [List.length_map, rowsL_len h3]
  cases d with
  | tup ss =>
    have hpp := plains_mem (show plains ss = true from hp)
    have hss := smalls_mem (show smalls ss = true from hs)
    by_cases h1 : ss.length = 2 ^ c.ns.length
    · have h1' : (ss.length : Int) = (2 : Int) ^ c.ns.length := by rw [h1]; simp
      have ez : itZip [.tup ss, .lst true ((rowsL c.ns.length).map dRow)] = M.pure ((ss.zip (rowsL c.ns.length)).map fun p : D × List Nat => .tup [p.1, dRow p.2]) := by
        have := itZip_tl true ss ((rowsL c.ns.length).map dRow)
        rw [List.zip_map_right, List.map_map] at this
        exact this
      simp [b_has_rows, hr, rowsL_len h3, h1', ez, rowB, h1]
      refine Ret.eq ?_
      refine forL_find_ret (e := fun p : D × List Nat => .tup [p.1, dRow p.2]) (fun (j : Slot × Slot × Slot) => [.val (.tup ss), .val (dRow x), .val (.tup (ps.map dRow)), .val (.lst true ((colsOf c ps).map dCol)), .val (seqD b (c.rs.map fun r => dR r.1)), .val (dN c.ns), .val (endD c.e), .val (.lst true ((rowsL c.ns.length).map dRow)), j.1, j.2.1, j.2.2, .un, .un])
        (fun p => !shareB c ps (dbl x p.2) p.1) (.bl false) (xs := ss.zip (rowsL c.ns.length)) (j := (.un, .un, .un)) ?_ ?_
      · intro p hp j Q hQ
        obtain ⟨s, st⟩ := p
        obtain ⟨m1, m2⟩ := List.of_mem_zip hp
        obtain ⟨t1, t2⟩ := rows_lens h3 m2
        have p1 := hpp s m1
        have p2 := hss s m1
        have q := hQ (.val s, .val (dRow st), .val (dRow (dbl x st)))
        have eT := fun f hf => s_target (env := []) (x := x) (st := st) (f := f) (by omega) (lt_mono hxn (by decide)) (by omega) hf
        have tl : (dbl x st).length = c.ns.length := by rw [dbl_len (by omega)]; exact hx
        have tn := dbl_lt hxn t2
        simp [zip_rows]
        rw [(eT _ (fun n d => by simp)).1, pure_bind', (eT (fun p => (asgT (cl w (k + 5)) (.tp (.cons (.nm 11) (.cons (.nm 12) .nil))) p [.un, .un, .un, .un, .un, .un, .un, .un, .un, .un, .un, .un, .un]).bind fun env1 => (evE (cl w (k + 5)) (.bin .Add (.bin .Mult (.int 2) (.var 11)) (.var 12)) env1).bind fun y => M.pure (some y)) (fun n d => by simp)).2, pure_bind', show D.tup (dNat (dbl x st)) = dRow (dbl x st) from rfl]
        generalize dbl x st = t at *
        rw [is_non p1, pure_bind', truM_bl, pure_bind']
        unfold shareB at q
        cases hn : isNone s with
        | true =>
          cases he : c.e with
          | none =>
            rw [he] at q
            simp [hn] at q
            simp [end_none]
            exact Ret.pure q
          | some e =>
            rw [he] at q
            have ea : callF pg w (k + 5) 21 [dRow t, endD (some e)] = M.pure (.bl (aheadB t e)) := s_is_ahead
            simp [hn] at q
            simp [end_none, ea]
            cases ha : aheadB t e with
            | true =>
              simp [ha] at q
              simp
              exact Ret.pure q
            | false =>
              simp [ha] at q
              simp
              exact Ret.pure q
        | false =>
          have ev := s_all_values_at (w := w) (k := k) (b := b) (rs := c.rs) (ns := c.ns) (N := N) (nums := t) hw h.all tl (lt_mono tn (by have := h.wide; omega))
          rw [show D.tup (dNat t) = dRow t from rfl] at ev
          have lt' := h.len t tl (lt_mono tn (by have := h.wide; omega))
          have em := s_is_made (w := w) (k := k + 1) (ps := ps) (cols := colsOf c ps) (t := t) (due := allAt c.rs c.ns t) (d := s) p1 p2 hw h8 (by unfold colsOf; rw [List.length_map]) (by
            intro col hcol
            unfold colsOf at hcol
            rw [List.mem_map] at hcol
            obtain ⟨y, hy, rfl⟩ := hcol
            obtain ⟨y1, y2⟩ := hps y hy
            refine ⟨by rw [lt', h.len y y1 (lt_mono y2 (by have := h.wide; omega))], h.low y y1 (lt_mono y2 (by decide))⟩) (h.all.few t)
          simp [hn] at q
          simp [ev, em]
          cases hm : madeB ps (colsOf c ps) t (allAt c.rs c.ns t) s with
          | true =>
            simp [hm] at q
            simp
            exact Ret.pure q
          | false =>
            simp [hm] at q
            simp
            exact Ret.pure q
      · intro j
        have hany : ((ss.zip (rowsL c.ns.length)).any fun p => !shareB c ps (dbl x p.2) p.1) = !((ss.zip (rowsL c.ns.length)).all fun p => shareB c ps (dbl x p.2) p.1) := by
          rw [List.any_eq_not_all_not]
          simp
        rw [hany]
        cases (ss.zip (rowsL c.ns.length)).all fun p => shareB c ps (dbl x p.2) p.1 with
        | true =>
          simp
          exact Ret.pure rfl
        | false =>
          simp
          exact Ret.pure rfl
    · have h1' : ¬ (ss.length : Int) = (2 : Int) ^ c.ns.length := fun e => by
        have e2 : ((ss.length : Nat) : Int) = ((2 ^ c.ns.length : Nat) : Int) := by rw [e]; simp
        exact h1 (Int.ofNat_inj.1 e2)
      simp [b_has_rows, hr, rowsL_len h3, h1', rowB, h1]
  | _ => first | (simp [b_has_rows, hr, rowB]; done) | (unfold plain at hp; cases hp)
end CK

set_option linter.all false
set_option autoImplicit false
set_option maxRecDepth 100000
set_option maxHeartbeats 1000000
namespace CK
open PySem PySem.Spec L2 Bc
variable {w k : Nat}
def endsB (c : Cx) (ps : List (List Nat)) : Bool := match c.e with
  | none => true
  | some e => ps.all fun p => aheadB p e
def zerosOf (c : Cx) : List Nat := List.replicate c.ns.length 0
def restB (c : Cx) (ps : List (List Nat)) (R : D) : Bool := (endsB c ps && beginB ps (c.rs.map fun r => r.1) (zerosOf c) c.e) && (match R with
  | .tup rr => decide (rr.length = ps.length) && (rr.zip ps).all fun p => rowB c ps p.2 p.1
  | _ => false)
def asPts : D → Option (List (List Nat))
  | .tup xs => asRows xs
  | _ => none
def spanB (c : Cx) : D → Bool
  | .tup [P, R] => isPts c.ns.length P && (match asPts P with
    | some ps => restB c ps R
    | none => false)
  | _ => false
theorem asPts_map (ps : List (List Nat)) : asPts (.tup (ps.map dRow)) = some ps := asRows_map ps
theorem zeros_mul (n : Nat) (h : n ≤ 3) : binD .Mult (.tup [.int 0]) (.int (n : Nat)) = M.pure (dRow (List.replicate n 0)) := by
  match n, h with
  | 0, _ => kernel_rfl
  | 1, _ => kernel_rfl
  | 2, _ => kernel_rfl
  | 3, _ => kernel_rfl
theorem any_not' {α : Type} (p : α → Bool) (xs : List α) : xs.any (fun d => !p d) = !xs.all p := by
  rw [List.any_eq_not_all_not]
  simp
theorem s_is_span {c : Cx} {N L : Nat} {b : Option Bool} (h : CxOk c N L) {d : D} (hp : plain d = true) (hs : small d = true) (hw : BIG ≤ w) (h8 : ∀ (ps : List (List Nat)) (R : D), d = .tup [.tup (ps.map dRow), R] → ps.length ≤ 8) :
    callF pg w (k + 7) 27 [d, seqD b (c.rs.map fun r => dR r.1), dN c.ns, endD c.e] = M.pure (.bl (spanB c d)) := by
  rw [call_is_span]
  have h3 : c.ns.length ≤ 3 := h.all.nms.len
  cases d with
  | tup xs =>
    have hpp := plains_mem (show plains xs = true from hp)
    have hss := smalls_mem (show smalls xs = true from hs)
    by_cases h1 : xs.length = 2
    · match xs, h1, hpp, hss, h8 with
      | [P, R], _, hpp, hss, h8 =>
        have pP := hpp P (by simp)
        have pR := hpp R (by simp)
        have sP := hss P (by simp)
        have sR := hss R (by simp)
        have e1 := s_are_points (w := w) (k := k + 3) (n := c.ns.length) pP (by omega)
        cases h2 : isPts c.ns.length P with
        | false => simp [b_is_span, e1, h2, spanB]
        | true =>
          obtain ⟨ps, rfl, hl, hlen, hasc⟩ := isPts_get h2
          have h8x := h8 ps R rfl
          have hlow : ∀ p ∈ ps, ∀ n ∈ p, n < 2 ^ 100 := by
            intro p hp
            have := smalls_mem (show smalls (ps.map dRow) = true from sP) (dRow p) (List.mem_map_of_mem hp)
            exact small_dRow this
          have hspan : spanB c (.tup [.tup (ps.map dRow), R]) = restB c ps R := by
            show (isPts c.ns.length (.tup (ps.map dRow)) && (match asPts (.tup (ps.map dRow)) with
              | some ps => restB c ps R
              | none => false)) = _
            rw [h2, asPts_map]; rfl
          rw [hspan]
          have e2 := s_begins (w := w) (k := k + 5) (ps := ps) (rs := c.rs.map fun r => r.1) (z := List.replicate c.ns.length 0) (e := c.e) (b := b) (by rw [List.map_map]; have := h.fs; simp only [Function.comp_def]; omega) hl
          rw [List.map_map, show (dR ∘ fun r : RF => r.1) = fun r : RF => dR r.1 from rfl] at e2
          simp [b_is_span, e1, h2, end_some, zeros_mul _ h3, e2]
          have hends : (if c.e.isSome = true then (noX (mapO (fun a => (callF pg w (k + 6) 21 [a, endD c.e]).bind fun y => M.pure (some y)) (ps.map dRow))).bind fun a => (need (lenOk a.length)).bind fun _ => (bAll [D.lst true a]).bind fun a => (truM a).bind fun b => M.pure (D.bl !b) else M.pure (D.bl c.e.isSome)) = M.pure (D.bl (!endsB c ps)) := by
            cases he : c.e with
            | none => simp [endsB, he]
            | some e =>
              rw [mapO_map (g := fun p => .bl (aheadB p e)) fun p hp => by
                rw [show endD (some e) = dRow e from rfl, s_is_ahead]; rfl]
              simp [need_len, toLine (show ps.length ≤ 16777216 by omega), bAll_map, endsB, he]
          rw [hends, need_len (toLine (show 1 ≤ 16777216 by decide))]
          unfold restB
          cases he1 : endsB c ps with
          | false => simp
          | true =>
            simp
            unfold zerosOf
            cases hb1 : beginB ps (c.rs.map fun r => r.1) (List.replicate c.ns.length 0) c.e with
            | false => simp [zeros_mul _ h3, e2, hb1]
            | true =>
              simp [zeros_mul _ h3, e2, hb1]
              cases R with
              | tup rr =>
                have hprr := plains_mem (show plains rr = true from pR)
                have hsrr := smalls_mem (show smalls rr = true from sR)
                by_cases h4 : rr.length = ps.length
                · have e3 : mapO (fun a => (callF pg w (k + 6) 18 [seqD b (c.rs.map fun r => dR r.1), dN c.ns, a]).bind fun y => M.pure (some y)) (ps.map dRow) = M.pure ((colsOf c ps).map dCol) := by
                    unfold colsOf
                    rw [List.map_map]
                    refine mapO_map (g := dCol ∘ allAt c.rs c.ns) fun p hp => ?_
                    have ev := s_all_values_at (w := w) (k := k + 1) (b := b) (rs := c.rs) (ns := c.ns) (N := N) (nums := p) hw h.all (hlen p hp) (lt_mono (hlow p hp) (by have := h.wide; omega))
                    rw [show D.tup (dNat p) = dRow p from rfl] at ev
                    rw [ev, pure_bind']
                    rfl
                  have hcl : ((colsOf c ps).map dCol).length = ps.length := by rw [List.length_map]; unfold colsOf; rw [List.length_map]
                  have ez : itZip [.tup rr, .tup (ps.map dRow)] = M.pure ((rr.zip ps).map fun p : D × List Nat => .tup [p.1, dRow p.2]) := by
                    have := itZip_tt rr (ps.map dRow)
                    rw [List.zip_map_right, List.map_map] at this
                    exact this
                  simp [h4, e3]
                  rw [need_len (by unfold colsOf; rw [List.length_map]; exact toLine (by omega)), pure_bind', List.zip_map_right, List.map_map]
                  refine Ret.eq ?_
                  refine forL_find_ret (e := fun p : D × List Nat => .tup [p.1, dRow p.2]) (fun (j : Slot × Slot) => [.val (.tup [.tup (ps.map dRow), .tup rr]), .val (seqD b (c.rs.map fun r => dR r.1)), .val (dN c.ns), .val (endD c.e), .val (.lst true ((colsOf c ps).map dCol)), .val (.tup (ps.map dRow)), .val (.tup rr), j.1, j.2])
                    (fun p => !rowB c ps p.2 p.1) (.bl false) (xs := rr.zip ps) (j := (.un, .un)) ?_ ?_
                  · intro p hp j Q hQ
                    obtain ⟨r, x⟩ := p
                    obtain ⟨m1, m2⟩ := List.of_mem_zip hp
                    have er := s_has_rows (w := w) (k := k) (b := b) h (ps := ps) (x := x) (d := r) (hprr r m1) (hsrr r m1) hw h8x (fun p hp => ⟨hlen p hp, hlow p hp⟩) (hlen x m2) (hlow x m2)
                    have q := hQ (.val r, .val (dRow x))
                    cases hr : rowB c ps x r with
                    | true =>
                      simp [hr] at q
                      simp [er, hr]
                      exact Ret.pure q
                    | false =>
                      simp [hr] at q
                      simp [er, hr]
                      exact Ret.pure q
                  · intro j
                    rw [any_not' (fun p : D × List Nat => rowB c ps p.2 p.1)]
                    cases (rr.zip ps).all fun p => rowB c ps p.2 p.1 with
                    | true =>
                      simp
                      exact Ret.pure rfl
                    | false =>
                      simp
                      exact Ret.pure rfl
                · simp [h4, show ¬ (rr.length : Int) = (ps.length : Int) by omega]
              | _ => first | (simp; done) | (unfold plain at pR; cases pR)
    · have : spanB c (.tup xs) = false := by
        match xs, h1 with
        | [], _ => rfl
        | [_], _ => rfl
        | _ :: _ :: _ :: _, _ => rfl
        | [_, _], h => exact absurd rfl h
      simp [b_is_span, this, show ¬ (xs.length : Int) = 2 by omega]
  | _ => first | (simp [b_is_span, spanB]; done) | (unfold plain at hp; cases hp)
end CK

set_option linter.all false
set_option autoImplicit false
set_option maxRecDepth 100000
set_option maxHeartbeats 1000000
namespace CK
open PySem PySem.Spec L2 Bc
variable {w k : Nat}
/-! ### numbers of names -/
def isNum (x : Str) : D → Bool
  | .tup [.str y, .int n] => (y == x) && decide (0 ≤ n)
  | _ => false
def isStr : D → Bool
  | .str _ => true
  | _ => false
theorem isi_str {d : D} (h : plain d = true) : isiDs d [.str] = some (isStr d) := by
  cases d <;> first | rfl | (unfold plain at h; cases h)
theorem plain_str {x : Str} (h : plain (.str x) = true) : okS x = true := by
  have h : (decide (x.length ≤ LINE) && okS x) = true := h
  rw [Bool.and_eq_true] at h
  exact h.2
theorem s_is_number_of {d : D} (h : plain d = true) {x : Str} (hx : okS x = true) : callF pg w (k + 2) 30 [d, .str x] = M.pure (.bl (isNum x d)) := by
  rw [call_is_number_of]
  cases d with
  | tup xs =>
    have h := plains_mem (show plains xs = true from h)
    by_cases h1 : xs.length = 2
    · match xs, h1, h with
      | [a, b], _, h =>
        have ha := h a (by simp)
        have hb := s_is_whole (w := w) (k := k) (h b (by simp))
        cases a with
        | str y =>
          simp [b_is_number_of, cmpD_ne_s (plain_str ha) hx]
          by_cases e : y = x
          · subst e
            simp [hb]
            cases b <;> simp [isNum, isW]
          · have e' : (y == x) = false := by simpa using e
            cases b <;> simp [isNum, e, e']
        | _ => first | (simp [b_is_number_of, isNum]; done) | (unfold plain at ha; cases ha)
    · have : isNum x (.tup xs) = false := by
        match xs, h1 with
        | [], _ => rfl
        | [_], _ => simp [isNum]
        | _ :: _ :: _ :: _, _ => simp [isNum]
        | [_, _], h => exact absurd rfl h
      simp [b_is_number_of, this, show ¬ (xs.length : Int) = 2 by omega]
  | _ => first | (simp [b_is_number_of, isNum]; done) | (unfold plain at h; cases h)
def numsB (ns : List Str) : D → Bool
  | .tup xs => decide (xs.length = ns.length) && (xs.zip ns).all fun p => isNum p.2 p.1
  | _ => false
theorem s_are_numbers {v : D} (h : plain v = true) {ns : List Str} (hn : Nm ns) : callF pg w (k + 3) 31 [v, dN ns] = M.pure (.bl (numsB ns v)) := by
  rw [call_are_numbers]
  cases v with
  | tup xs =>
    have h := plains_mem (show plains xs = true from h)
    by_cases g : xs.length = ns.length
    · simp [b_are_numbers, g]
      rw [show dN ns = .tup (ns.map .str) from rfl, itZip_tt, pure_bind', List.zip_map_right, List.map_map]
      rw [mapO_map (g := fun p => .bl (isNum p.2 p.1))]
      · have hl := hn.len
        simp [need_len, g, toLine (show ns.length ≤ 16777216 by omega), bAll_map, numsB]
      · intro p hp
        obtain ⟨d, x⟩ := p
        have hz := List.of_mem_zip hp
        simp
        rw [s_is_number_of (h d hz.1) (hn.ok x hz.2)]
        simp
    · simp [b_are_numbers, g, numsB, show ¬ (xs.length : Int) = (ns.length : Int) by omega]
  | _ => first | (simp [b_are_numbers, numsB]; done) | (unfold plain at h; cases h)
def isEmp : D → Bool
  | .tup [] => true
  | _ => false
theorem s_is_empty {d : D} (h : plain d = true) : callF pg w (k + 1) 29 [d] = M.pure (.bl (isEmp d)) := by
  rw [call_is_empty]
  cases d with
  | tup xs =>
    cases xs with
    | nil => rfl
    | cons x xs =>
      have : ¬ ((xs.length : Int) + 1 = 0) := by omega
      simp [b_is_empty, isEmp, this]
  | _ => first | rfl | (unfold plain at h; cases h)
def dRowN (ns : List Str) (nums : List Nat) : D := .tup ((ns.zip nums).map fun p => .tup [.str p.1, .int (p.2 : Nat)])
theorem numsL_get : ∀ {ns : List Str} {xs : List D}, xs.length = ns.length → ((xs.zip ns).all fun p => isNum p.2 p.1) = true → ∃ nums : List Nat, xs = ((ns.zip nums).map fun p => D.tup [.str p.1, .int (p.2 : Nat)]) ∧ nums.length = ns.length
  | [], [], _, _ => ⟨[], rfl, rfl⟩
  | [], _ :: _, h1, _ => by cases h1
  | _ :: _, [], h1, _ => by cases h1
  | x :: ns, d :: xs, h1, h2 => by
    rw [List.zip_cons_cons, List.all_cons, Bool.and_eq_true] at h2
    obtain ⟨nums, e, hl⟩ := numsL_get (ns := ns) (xs := xs) (by simpa using h1) h2.2
    have hd : isNum x d = true := h2.1
    have : ∃ n : Nat, d = .tup [.str x, .int (n : Nat)] := by
      unfold isNum at hd
      split at hd
      · rename_i y n
        rw [Bool.and_eq_true] at hd
        have e1 := eq_of_beq hd.1
        have e2 := of_decide_eq_true hd.2
        exact ⟨n.toNat, by rw [e1, show ((n.toNat : Nat) : Int) = n by omega]⟩
      · cases hd
    obtain ⟨n, rfl⟩ := this
    exact ⟨n :: nums, by rw [e]; rfl, by simp [hl]⟩
theorem numsB_get {ns : List Str} {v : D} (h : numsB ns v = true) : ∃ nums : List Nat, v = dRowN ns nums ∧ nums.length = ns.length := by
  cases v with
  | tup xs =>
    have h : (decide (xs.length = ns.length) && (xs.zip ns).all fun p => isNum p.2 p.1) = true := h
    rw [Bool.and_eq_true] at h
    obtain ⟨nums, e, hl⟩ := numsL_get (of_decide_eq_true h.1) h.2
    exact ⟨nums, by rw [e]; rfl, hl⟩
  | _ => cases h
theorem numsB_row {ns : List Str} {nums : List Nat} (hl : nums.length = ns.length) : numsB ns (dRowN ns nums) = true := by
  show (decide (((ns.zip nums).map fun p => D.tup [.str p.1, .int (p.2 : Nat)]).length = ns.length) && (((ns.zip nums).map fun p => D.tup [.str p.1, .int (p.2 : Nat)]).zip ns).all fun p => isNum p.2 p.1) = true
  rw [List.length_map, List.length_zip, decide_eq_true (by omega), Bool.true_and]
  clear hl
  induction ns generalizing nums with
  | nil => rfl
  | cons x ns ih => cases nums with
    | nil => rfl
    | cons n nums =>
      rw [List.zip_cons_cons, List.map_cons, List.zip_cons_cons, List.all_cons, ih]
      simp [isNum]
/-! ### two rules at numbers -/
def alikeQ (a b : RF) (ns : List Str) (x : List Nat) : Bool := decide (valAt a.1 a.2 ns x = valAt b.1 b.2 ns x)
structure Pair (a b : RF) (ns : List Str) (N : Nat) : Prop where
  nms : Nm ns
  ta : Tells a.1 a.2 N
  tb : Tells b.1 b.2 N
  sa : ∀ x ∈ a.1.nm, x ∈ ns
  sb : ∀ x ∈ b.1.nm, x ∈ ns
  big : N ≤ 10000
theorem s_are_alike {a b : RF} {ns : List Str} {N : Nat} {x : List Nat} (hw : BIG ≤ w) (h : Pair a b ns N) (hl : x.length = ns.length) (hN : ∀ n ∈ x, n < 2 ^ N) {f : Option Bool} :
    callF pg w (k + 6) 32 [seqD f [dR a.1, dR b.1], dN ns, dRow x] = M.pure (.bl (alikeQ a b ns x)) := by
  rw [call_are_alike]
  have e1 := s_told_at (w := w) (k := k) hw h.ta h.nms h.sa hl hN h.big
  have e2 := s_told_at (w := w) (k := k) hw h.tb h.nms h.sb hl hN h.big
  rw [show D.tup (dNat x) = dRow x from rfl] at e1 e2
  have i0 : subD (seqD f [dR a.1, dR b.1]) (.int 0) = M.pure (dR a.1) := by cases f <;> rfl
  have i1 : subD (seqD f [dR a.1, dR b.1]) (.int 1) = M.pure (dR b.1) := by cases f <;> rfl
  simp [b_are_alike, i0, i1, e1, e2, eq_q, alikeQ]
/-! ### rules looked at -/
/-- how a value is told to be a rule or none -/
def RuleIs (w : Nat) (d : D) (b : Bool) : Prop := ∀ k, callF pg w (k + 5) 8 [d] = M.pure (.bl b)
theorem s_are_rules_no {ds : List (D × Bool)} {f : Option Bool} (hl : ds.length ≤ 1000) (h : ∀ p ∈ ds, RuleIs w p.1 p.2) (hno : (ds.all fun p => p.2) = false) :
    callF pg w (k + 6) 20 [seqD f (ds.map fun p => p.1)] = M.pure (.bl false) := by
  rw [call_are_rules]
  simp [b_are_rules, itSeq_seq]
  rw [mapO_map (g := fun p : D × Bool => .bl p.2)]
  · simp [need_len, toLine (show ds.length ≤ 16777216 by omega), bAll_map, hno]
  · intro p hp
    rw [h p hp k]
    simp
structure GoodRs (w : Nat) (rs : List Rl) : Prop where
  few : rs.length ≤ 10
  each : ∀ r ∈ rs, RuleIs w (dR r) true
  nms : ∀ r ∈ rs, Nm r.nm
theorem s_names_rules {rs : List Rl} (h : GoodRs w rs) {f : Bool} :
    callF pg w (k + 1) 19 [.lst f (rs.map fun r => dN r.nm)] = M.pure (dN (sortS (joinN (rs.map fun r => r.nm)))) := by
  have := s_names_of (w := w) (k := k) (nss := rs.map fun r => r.nm) (b := f) (by
    intro ns hn
    rw [List.mem_map] at hn
    obtain ⟨r, hr, rfl⟩ := hn
    exact ⟨(h.nms r hr).ok, (h.nms r hr).len⟩) (by rw [List.length_map]; exact h.few)
  rw [List.map_map] at this
  exact this
theorem rule_names (c : Cl) {rs : List Rl} {f : D → M (Option D)} (hf : ∀ r : Rl, f (dR r) = (subD (dR r) (.int 0)).bind fun y => M.pure (some y)) :
    mapO f (rs.map dR) = M.pure (rs.map fun r => dN r.nm) := mapO_map fun r hr => by rw [hf, dR_0, pure_bind']
theorem s_are_rules {rs : List Rl} {f : Option Bool} (h : GoodRs w rs) :
    callF pg w (k + 6) 20 [seqD f (rs.map dR)] = M.pure (.bl (decide ((sortS (joinN (rs.map fun r => r.nm))).length ≤ 3))) := by
  rw [call_are_rules]
  have hf := h.few
  have e := s_names_rules (w := w) (k := k + 4) h (f := true)
  have e1 : mapO (fun a => (callF pg w (k + 5) 8 [a]).bind fun y => M.pure (some y)) (rs.map dR) = M.pure (rs.map fun r => D.bl true) := mapO_map fun r hr => by rw [h.each r hr k, pure_bind']
  have e2 : mapO (fun a => (subD a (.int 0)).bind fun y => M.pure (some y)) (rs.map dR) = M.pure (rs.map fun r => dN r.nm) := rule_names ⟨callF pg w 0, pg.init, pg.tab⟩ fun r => rfl
  have e3 : bAll [.lst true (rs.map fun r => D.bl true)] = M.pure (.bl true) := by
    rw [bAll_map (fun _ => true), List.all_eq_true.2 (fun _ _ => rfl)]
  simp [b_are_rules, itSeq_seq, e1, e2, need_len, toLine (show rs.length ≤ 16777216 by omega)]
  rw [e3]
  have h3 : (((sortS (joinN (rs.map fun r => r.nm))).length : Int) ≤ 3) ↔ (sortS (joinN (rs.map fun r => r.nm))).length ≤ 3 := by omega
  simp [e, h3]
end CK

set_option linter.all false
set_option autoImplicit false
set_option maxRecDepth 100000
set_option maxHeartbeats 1000000
namespace CK
open PySem PySem.Spec L2 Bc
variable {w k : Nat}
theorem ne_ss : cmpD .NotEq (.str "same") (.str "same") = M.pure (.bl false) := by kernel_rfl
theorem ne_as : cmpD .NotEq (.str "apart") (.str "same") = M.pure (.bl true) := by kernel_rfl
theorem ne_ps : cmpD .NotEq (.str "parting") (.str "same") = M.pure (.bl true) := by kernel_rfl
theorem eq_sa : cmpD .Eq (.str "same") (.str "apart") = M.pure (.bl false) := by kernel_rfl
theorem eq_aa : cmpD .Eq (.str "apart") (.str "apart") = M.pure (.bl true) := by kernel_rfl
theorem eq_pa : cmpD .Eq (.str "parting") (.str "apart") = M.pure (.bl false) := by kernel_rfl
theorem cut13 (t A B : D) (r : List D) : cutD (t :: A :: B :: r) (some 1) (some 3) = [A, B] := by
  unfold cutD
  have e1 : HT.sIx (t :: A :: B :: r).length 0 (some 1) = 1 := by
    rw [show (1 : Int) = ((1 : Nat) : Int) from rfl, HT.sIx_nat, List.length_cons]
    omega
  have e3 : HT.sIx (t :: A :: B :: r).length (t :: A :: B :: r).length (some 3) = 3 := by
    rw [show (3 : Int) = ((3 : Nat) : Int) from rfl, HT.sIx_nat, List.length_cons, List.length_cons, List.length_cons]
    omega
  rw [e1, e3]
  rfl
theorem so_bad {A B : D} {t : Str} {r : List D} {c : D} {x y : Bool} (hA : RuleIs w A x) (hB : RuleIs w B y) (h : (x && y) = false) : callF pg w (k + 7) 33 [.tup (.str t :: A :: B :: r), c] = M.pure (.bl false) := by
  rw [call_are_rules_so]
  have e := s_are_rules_no (w := w) (k := k) (ds := [(A, x), (B, y)]) (f := none) (by simp) (by
    intro p hp
    simp at hp
    rcases hp with rfl | rfl
    · exact hA
    · exact hB) (by simpa using h)
  rw [show seqD none ([(A, x), (B, y)].map fun p : D × Bool => p.1) = .tup [A, B] from rfl] at e
  simp [b_are_rules_so, cut13, e]
structure Two (w : Nat) (a b : RF) (ns : List Str) (N L : Nat) : Prop where
  good : GoodRs w [a.1, b.1]
  names : sortS (joinN [a.1.nm, b.1.nm]) = ns
  len : ns.length ≤ 3
  cx : ∀ e, CxOk ⟨ns, [a, b], e⟩ N L
theorem Two.pair {a b : RF} {ns : List Str} {N L : Nat} (h : Two w a b ns N L) : Pair a b ns N := by
  have c := (h.cx none).all
  have ca := c.each a (by simp)
  have cb := c.each b (by simp)
  exact ⟨c.nms, ca.1, cb.1, ca.2, cb.2, c.big⟩
/-- the first points of a certificate -/
def ptsOf : D → List (List Nat)
  | .tup [P, _] => (asPts P).getD []
  | _ => []
theorem spanB_get {c : Cx} {d : D} (h : spanB c d = true) : ∃ (ps : List (List Nat)) (R : D), d = .tup [.tup (ps.map dRow), R] ∧ (∀ p ∈ ps, p.length = c.ns.length) ∧ ps.length ≤ 200 := by
  cases d with
  | tup xs =>
    match xs, h with
    | [P, R], h =>
      have h : (isPts c.ns.length P && (match asPts P with
        | some ps => restB c ps R
        | none => false)) = true := h
      rw [Bool.and_eq_true] at h
      obtain ⟨ps, rfl, h1, h2, _⟩ := isPts_get h.1
      exact ⟨ps, R, rfl, h2, h1⟩
  | _ => cases h
theorem ptsOf_map (ps : List (List Nat)) (R : D) : ptsOf (.tup [.tup (ps.map dRow), R]) = ps := by
  show (asPts (.tup (ps.map dRow))).getD [] = _
  rw [asPts_map]; rfl
/-- what a certificate must be so that it may be looked at -/
structure Cert (d : D) : Prop where
  pl : plain d = true
  sm : small d = true
  few : ∀ (ps : List (List Nat)) (R : D), d = .tup [.tup (ps.map dRow), R] → ps.length ≤ 8
theorem s_alikes {a b : RF} {ns : List Str} {N L : Nat} (hw : BIG ≤ w) (h : Two w a b ns N L) {ps : List (List Nat)} (hps : ∀ p ∈ ps, p.length = ns.length) (hsm : small (.tup (ps.map dRow)) = true) :
    mapO (fun x => (callF pg w (k + 6) 32 [.tup [dR a.1, dR b.1], dN ns, x]).bind fun y => M.pure (some y)) (ps.map dRow) = M.pure (ps.map fun x => .bl (alikeQ a b ns x)) := by
  refine mapO_map fun x hx => ?_
  have hx2 := small_dRow (smalls_mem (show smalls (ps.map dRow) = true from hsm) (dRow x) (List.mem_map_of_mem hx))
  have e := s_are_alike (w := w) (k := k) hw h.pair (hps x hx) (lt_mono hx2 (by have := (h.cx none).wide; omega)) (f := none)
  rw [show seqD none [dR a.1, dR b.1] = .tup [dR a.1, dR b.1] from rfl] at e
  rw [e, pure_bind']
theorem so_same {a b : RF} {ns : List Str} {N L : Nat} (hw : BIG ≤ w) (h : Two w a b ns N L) {d : D} (hd : Cert d) :
    callF pg w (k + 8) 33 [.tup [.str "same", dR a.1, dR b.1], d] = M.pure (.bl (spanB ⟨ns, [a, b], none⟩ d && (ptsOf d).all (alikeQ a b ns))) := by
  rw [call_are_rules_so]
  have e1 := s_are_rules (w := w) (k := k + 1) (f := none) h.good
  have e2 := s_names_rules (w := w) (k := k + 6) (f := true) h.good
  rw [show [a.1, b.1].map (fun r => r.nm) = [a.1.nm, b.1.nm] from rfl, h.names] at e1 e2
  rw [show seqD none ([a.1, b.1].map dR) = .tup [dR a.1, dR b.1] from rfl, decide_eq_true h.len] at e1
  rw [show [a.1, b.1].map (fun r => dN r.nm) = [dN a.1.nm, dN b.1.nm] from rfl] at e2
  have e3 := s_is_span (w := w) (k := k) (b := none) (h.cx none) hd.pl hd.sm hw hd.few
  rw [show seqD none (([a, b] : List RF).map fun r => dR r.1) = .tup [dR a.1, dR b.1] from rfl, show endD none = .non from rfl] at e3
  simp [b_are_rules_so, cut13, e1, e2, ne_ss, eq_sa, e3, mapO_cons1, mapO_nil, need_len, toLine]
  cases hs : spanB ⟨ns, [a, b], none⟩ d with
  | false => simp
  | true =>
    obtain ⟨ps, R, rfl, hps, hl⟩ := spanB_get hs
    rw [ptsOf_map]
    have hsm := smalls_mem (show smalls [.tup (ps.map dRow), R] = true from hd.sm) (.tup (ps.map dRow)) (by simp)
    have e4 := s_alikes (w := w) (k := k + 1) hw h hps hsm
    simp [e4, need_len, toLine (show ps.length ≤ 16777216 by omega), bAll_map]
/-- the numbers at the end -/
theorem nums_snd {ns : List Str} {nums : List Nat} (hl : nums.length = ns.length) : ((ns.zip nums).map fun p => D.int (p.2 : Nat)) = dNat nums := by
  unfold dNat
  rw [show (fun p : Str × Nat => D.int (p.2 : Nat)) = (fun n : Nat => D.int n) ∘ Prod.snd from rfl, ← List.map_map, List.map_snd_zip (by omega)]
theorem so_nums {a b : RF} {ns : List Str} {N L : Nat} (hw : BIG ≤ w) (h : Two w a b ns N L) {t : Str} (ht : cmpD .NotEq (.str t) (.str "same") = M.pure (.bl true)) {v : D} (hv : plain v = true) (hno : numsB ns v = false) {d : D} :
    callF pg w (k + 8) 33 [.tup [.str t, dR a.1, dR b.1, v], d] = M.pure (.bl false) := by
  rw [call_are_rules_so]
  have e1 := s_are_rules (w := w) (k := k + 1) (f := none) h.good
  have e2 := s_names_rules (w := w) (k := k + 6) (f := true) h.good
  rw [show [a.1, b.1].map (fun r => r.nm) = [a.1.nm, b.1.nm] from rfl, h.names] at e1 e2
  rw [show seqD none ([a.1, b.1].map dR) = .tup [dR a.1, dR b.1] from rfl, decide_eq_true h.len] at e1
  rw [show [a.1, b.1].map (fun r => dN r.nm) = [dN a.1.nm, dN b.1.nm] from rfl] at e2
  have e3 := s_are_numbers (w := w) (k := k + 4) hv h.pair.nms
  rw [hno] at e3
  simp [b_are_rules_so, cut13, e1, e2, ht, e3, mapO_cons1, mapO_nil, need_len, toLine]
def GREATEST : Nat := 10 ^ 100
theorem so_apart {a b : RF} {ns : List Str} {N L : Nat} (hw : BIG ≤ w) (h : Two w a b ns N L) {nums : List Nat} (hl : nums.length = ns.length) (hN : ∀ n ∈ nums, n < 2 ^ N) (hp : plain (dRowN ns nums) = true) {d : D} (hd : plain d = true) :
    callF pg w (k + 8) 33 [.tup [.str "apart", dR a.1, dR b.1, dRowN ns nums], d] = M.pure (.bl (!alikeQ a b ns nums && (isEmp d && nums.all fun n => decide (n ≤ GREATEST)))) := by
  rw [call_are_rules_so]
  have e1 := s_are_rules (w := w) (k := k + 1) (f := none) h.good
  have e2 := s_names_rules (w := w) (k := k + 6) (f := true) h.good
  rw [show [a.1, b.1].map (fun r => r.nm) = [a.1.nm, b.1.nm] from rfl, h.names] at e1 e2
  rw [show seqD none ([a.1, b.1].map dR) = .tup [dR a.1, dR b.1] from rfl, decide_eq_true h.len] at e1
  rw [show [a.1, b.1].map (fun r => dN r.nm) = [dN a.1.nm, dN b.1.nm] from rfl] at e2
  have e3 := s_are_numbers (w := w) (k := k + 4) hp h.pair.nms
  rw [numsB_row hl] at e3
  have e4 := s_are_alike (w := w) (k := k + 1) hw h.pair hl hN (f := none)
  rw [show seqD none [dR a.1, dR b.1] = .tup [dR a.1, dR b.1] from rfl] at e4
  have e5 : itSeq [dRowN ns nums] = M.pure ((ns.zip nums).map fun p : Str × Nat => D.tup [.str p.1, .int (p.2 : Nat)]) := rfl
  have h3 := h.len
  have e6 : ((ns.zip nums).map fun p : Str × Nat => D.int (p.2 : Nat)) = dNat nums := nums_snd hl
  have e7 : ∀ f : D → M (Option D), (∀ x n, f (.tup [.str x, .int n]) = M.pure (some (.int n))) → mapO f ((ns.zip nums).map fun p : Str × Nat => D.tup [.str p.1, .int (p.2 : Nat)]) = M.pure (dNat nums) := fun f hf => by
    rw [← e6]
    exact mapO_map fun p hp => hf _ _
  have e8 := s_is_empty (w := w) (k := k + 6) hd
  simp [b_are_rules_so, cut13, e1, e2, ne_as, eq_aa, e3, mapO_cons1, mapO_nil, need_len, toLine, e5]
  rw [e7 _ (fun x n => by simp)]
  have hln : (dNat nums).length = nums.length := by unfold dNat; rw [List.length_map]
  rw [noX_pure, pure_bind', hln, need_len (toLine (by omega)), pure_bind', show D.tup (dNat nums) = dRow nums from rfl]
  simp [e4]
  cases ha : alikeQ a b ns nums with
  | true => simp
  | false =>
    simp [eq_aa, e8]
    cases he : isEmp d with
    | false => simp
    | true =>
      simp
      rw [show itSeq [dRow nums] = M.pure (dNat nums) from rfl, pure_bind']
      unfold dNat
      rw [mapO_map (g := fun n : Nat => D.bl (decide (n ≤ GREATEST)))]
      · simp [need_len, toLine (show nums.length ≤ 16777216 by omega), bAll_map]
      · intro n hn
        have : ((n : Int) ≤ 10000000000000000000000000000000000000000000000000000000000000000000000000000000000000000000000000000) ↔ n ≤ GREATEST := by
          unfold GREATEST
          omega
        simp [this]
theorem so_parting {a b : RF} {ns : List Str} {N L : Nat} (hw : BIG ≤ w) (h : Two w a b ns N L) {nums : List Nat} (hl : nums.length = ns.length) (hN : ∀ n ∈ nums, n < 2 ^ N) (hp : plain (dRowN ns nums) = true) {d : D} (hd : Cert d) :
    callF pg w (k + 8) 33 [.tup [.str "parting", dR a.1, dR b.1, dRowN ns nums], d] = M.pure (.bl (!alikeQ a b ns nums && (spanB ⟨ns, [a, b], some nums⟩ d && (ptsOf d).all (alikeQ a b ns)))) := by
  rw [call_are_rules_so]
  have e1 := s_are_rules (w := w) (k := k + 1) (f := none) h.good
  have e2 := s_names_rules (w := w) (k := k + 6) (f := true) h.good
  rw [show [a.1, b.1].map (fun r => r.nm) = [a.1.nm, b.1.nm] from rfl, h.names] at e1 e2
  rw [show seqD none ([a.1, b.1].map dR) = .tup [dR a.1, dR b.1] from rfl, decide_eq_true h.len] at e1
  rw [show [a.1, b.1].map (fun r => dN r.nm) = [dN a.1.nm, dN b.1.nm] from rfl] at e2
  have e3 := s_are_numbers (w := w) (k := k + 4) hp h.pair.nms
  rw [numsB_row hl] at e3
  have e4 := s_are_alike (w := w) (k := k + 1) hw h.pair hl hN (f := none)
  rw [show seqD none [dR a.1, dR b.1] = .tup [dR a.1, dR b.1] from rfl] at e4
  have e5 : itSeq [dRowN ns nums] = M.pure ((ns.zip nums).map fun p : Str × Nat => D.tup [.str p.1, .int (p.2 : Nat)]) := rfl
  have h3 := h.len
  have e6 : ((ns.zip nums).map fun p : Str × Nat => D.int (p.2 : Nat)) = dNat nums := nums_snd hl
  have e7 : ∀ f : D → M (Option D), (∀ x n, f (.tup [.str x, .int n]) = M.pure (some (.int n))) → mapO f ((ns.zip nums).map fun p : Str × Nat => D.tup [.str p.1, .int (p.2 : Nat)]) = M.pure (dNat nums) := fun f hf => by
    rw [← e6]
    exact mapO_map fun p hp => hf _ _
  simp [b_are_rules_so, cut13, e1, e2, ne_ps, eq_pa, e3, mapO_cons1, mapO_nil, need_len, toLine, e5]
  rw [e7 _ (fun x n => by simp)]
  have hln : (dNat nums).length = nums.length := by unfold dNat; rw [List.length_map]
  rw [noX_pure, pure_bind', hln, need_len (toLine (by omega)), pure_bind', show D.tup (dNat nums) = dRow nums from rfl]
  simp [e4]
  cases ha : alikeQ a b ns nums with
  | true => simp
  | false =>
    have e8 := s_is_span (w := w) (k := k) (b := none) (h.cx (some nums)) hd.pl hd.sm hw hd.few
    rw [show seqD none (([a, b] : List RF).map fun r => dR r.1) = .tup [dR a.1, dR b.1] from rfl, show endD (some nums) = dRow nums from rfl] at e8
    simp [eq_pa, e8]
    cases hs : spanB ⟨ns, [a, b], some nums⟩ d with
    | false => simp
    | true =>
      obtain ⟨ps, R, rfl, hps, hl⟩ := spanB_get hs
      rw [ptsOf_map]
      have hsm := smalls_mem (show smalls [.tup (ps.map dRow), R] = true from hd.sm) (.tup (ps.map dRow)) (by simp)
      have e4 := s_alikes (w := w) (k := k + 1) hw h hps hsm
      simp [e4, need_len, toLine (show ps.length ≤ 16777216 by omega), bAll_map]
end CK

set_option linter.all false
set_option autoImplicit false
set_option maxRecDepth 100000
set_option maxHeartbeats 1000000
namespace CK
open PySem PySem.Spec L2 Bc
variable {w k : Nat}
structure Many (w : Nat) (rs : List RF) (ns : List Str) (N L : Nat) : Prop where
  good : GoodRs w (rs.map fun r => r.1)
  names : sortS (joinN (rs.map fun r => r.1.nm)) = ns
  len : ns.length ≤ 3
  cx : ∀ e, CxOk ⟨ns, rs, e⟩ N L
  tot : ∀ x : List Nat, x.length = ns.length → (∀ n ∈ x, n < 2 ^ 102) → ∀ r ∈ rs, (valAt r.1 r.2 ns x).den = 1 ∧ Lt2 (valAt r.1 r.2 ns x).num 300
theorem Many.two {a b : RF} {ns : List Str} {N L : Nat} (h : Many w [a, b] ns N L) : Two w a b ns N L := ⟨h.good, h.names, h.len, h.cx⟩
def zeroQ (rs : List RF) (fs : List Int) (ns : List Str) (x : List Nat) : Bool := decide (dot (fs.map fun i : Int => (i : Rat)) (rs.map fun r => valAt r.1 r.2 ns x) = 0)
def FsOk (fs : List Int) : Prop := ∀ f ∈ fs, Lt2 f 99
theorem s_is_zero_at {rs : List RF} {ns : List Str} {N L : Nat} (hw : BIG ≤ w) (h : Many w rs ns N L) (h6 : rs.length ≤ 6) {fs : List Int} (hl : fs.length = rs.length) (hf : FsOk fs) {x : List Nat} (hx : x.length = ns.length) (hN : ∀ n ∈ x, n < 2 ^ 102) :
    callF pg w (k + 6) 34 [.tup (rs.map fun r => dR r.1), .tup (fs.map .int), dN ns, dRow x] = M.pure (.bl (zeroQ rs fs ns x)) := by
  rw [call_is_zero_at]
  have hA := (h.cx none).all
  have hwide := (h.cx none).wide
  have e1 : mapO (fun r => (callF pg w (k + 5) 17 [r, dN ns, dRow x]).bind fun y => M.pure (some y)) (rs.map fun r => dR r.1) = M.pure (rs.map fun r => dQ (valAt r.1 r.2 ns x)) := by
    refine mapO_map fun r hr => ?_
    obtain ⟨ht, hsub⟩ := hA.each r hr
    have e := s_told_at (w := w) (k := k) hw ht hA.nms hsub hx (lt_mono hN hwide) hA.big
    rw [show D.tup (dNat x) = dRow x from rfl] at e
    rw [e, pure_bind']
  have e2 : ∀ f : D → M (Option D), (∀ i, f (.int i) = (need (lenOk 2)).bind fun _ => M.pure (some (.tup [.int i, .int 1]))) → mapO f (fs.map .int) = M.pure (fs.map fun i : Int => dQ (i : Rat)) := fun f hf => mapO_map fun i hi => by
    rw [hf, need_len (toLine (by decide)), pure_bind']
    rfl
  have e3 := s_added (w := w) (k := k + 3) (b := some true) (b' := true) (rs := fs.map fun i : Int => (i : Rat)) (vs := rs.map fun r => valAt r.1 r.2 ns x) hw (fineP_of (a := 100) (b := 300) (by
    intro p hp
    obtain ⟨h4, h5⟩ := List.of_mem_zip (a := p.1) (b := p.2) hp
    rw [List.mem_map] at h4 h5
    obtain ⟨i, hi, h4⟩ := h4
    obtain ⟨r, hr, h5⟩ := h5
    obtain ⟨t1, t2⟩ := h.tot x hx hN r hr
    rw [h5] at t1 t2
    refine ⟨?_, ?_, t1, t2⟩
    · rw [← h4]
      show (1 : Nat) < _
      decide
    · rw [← h4]
      exact (show Lt2 i 100 from (hf i hi).mono (by decide))) (by
      rw [List.length_zip, List.length_map, List.length_map, hl, Nat.min_self]
      omega) (by decide))
  rw [show seqD (some true) ((fs.map fun i : Int => (i : Rat)).map dQ) = .lst true (fs.map fun i : Int => dQ (i : Rat)) by rw [List.map_map]; rfl, List.map_map, show (dQ ∘ fun r : RF => valAt r.1 r.2 ns x) = fun r => dQ (valAt r.1 r.2 ns x) from rfl] at e3
  have e4 : ∀ q : Rat, cmpD .Eq (dQ q) (.tup [.int 0, .int 1]) = M.pure (.bl (decide (q = 0))) := fun q => eq_q q 0
  simp [b_is_zero_at, e1, need_len, toLine (show rs.length ≤ 16777216 by omega)]
  rw [e2 _ (fun i => by simp)]
  simp [need_len, toLine (show fs.length ≤ 16777216 by omega), toLine (show 2 ≤ 16777216 by decide), e3, e4, zeroQ]
def factB (n : Nat) : D → Bool
  | .tup xs => decide (xs.length = n) && xs.all isW
  | _ => false
theorem factB_get {n : Nat} {d : D} (h : factB n d = true) : ∃ fs : List Int, d = .tup (fs.map .int) ∧ fs.length = n := by
  cases d with
  | tup xs =>
    have h : (decide (xs.length = n) && xs.all isW) = true := h
    rw [Bool.and_eq_true] at h
    have h1 := of_decide_eq_true h.1
    obtain ⟨fs, rfl, hl, _⟩ := lift_map (g := D.int) (G := fun _ => True) fun y hy => by
      have h2 := List.all_eq_true.1 h.2 y hy
      cases y with
      | int i => exact ⟨i, rfl, trivial⟩
      | _ => cases h2
    exact ⟨fs, rfl, by rw [hl]; exact h1⟩
  | _ => cases h
theorem factB_map (fs : List Int) : factB fs.length (.tup (fs.map .int)) = true := by
  show (decide ((fs.map D.int).length = fs.length) && (fs.map D.int).all isW) = true
  rw [List.length_map, decide_eq_true rfl, List.all_map, Bool.true_and, List.all_eq_true]
  intro i hi
  rfl
def factsOf : D → List Int
  | .tup xs => (asInts xs).getD []
  | _ => []
theorem factsOf_map (fs : List Int) : factsOf (.tup (fs.map .int)) = fs := by
  show (asInts (fs.map .int)).getD [] = fs
  rw [asInts_map (fun i => i)]
  simp
def fits6 : D → Bool
  | .tup xs => decide (0 < xs.length) && decide (xs.length ≤ 6)
  | _ => false
theorem rel_fit {R F d : D} (hp : plain R = true) (h : fits6 R = false) : callF pg w (k + 1) 35 [R, F, d] = M.pure (.bl false) := by
  rw [call_is_relation]
  cases R with
  | tup xs =>
    have h : (decide (0 < xs.length) && decide (xs.length ≤ 6)) = false := h
    by_cases h1 : 0 < xs.length
    · have h2 : ¬ xs.length ≤ 6 := fun e => by
        rw [decide_eq_true h1, decide_eq_true e] at h
        cases h
      have h1' : (0 : Int) < xs.length := by omega
      have h2' : ¬ (xs.length : Int) ≤ 6 := by omega
      simp [b_is_relation, h1, h1', h2, h2']
    · have : xs = [] := by
        cases xs with
        | nil => rfl
        | cons x r => exact absurd (Nat.zero_lt_succ _) h1
      subst this
      simp [b_is_relation]
  | _ => first | (simp [b_is_relation]; done) | (unfold plain at hp; cases hp)
theorem rel_bad {ds : List (D × Bool)} {F d : D} (hl : 0 < ds.length ∧ ds.length ≤ 6) (h : ∀ p ∈ ds, RuleIs w p.1 p.2) (hno : (ds.all fun p => p.2) = false) :
    callF pg w (k + 7) 35 [.tup (ds.map fun p => p.1), F, d] = M.pure (.bl false) := by
  rw [call_is_relation]
  have e := s_are_rules_no (w := w) (k := k) (f := none) (by omega) h hno
  rw [show seqD none (ds.map fun p : D × Bool => p.1) = .tup (ds.map fun p => p.1) from rfl] at e
  have h1' : (0 : Int) < ds.length := by omega
  have h2' : (ds.length : Int) ≤ 6 := by omega
  simp [b_is_relation, hl.1, h1', h2', e]
theorem s_is_relation {rs : List RF} {ns : List Str} {N L : Nat} (hw : BIG ≤ w) (h : Many w rs ns N L) (h6 : 0 < rs.length ∧ rs.length ≤ 6) {F d : D} (hF : plain F = true) (hok : ∀ fs : List Int, F = .tup (fs.map .int) → FsOk fs) (hd : Cert d) :
    callF pg w (k + 8) 35 [.tup (rs.map fun r => dR r.1), F, d] = M.pure (.bl (factB rs.length F && (spanB ⟨ns, rs, none⟩ d && (ptsOf d).all (zeroQ rs (factsOf F) ns)))) := by
  rw [call_is_relation]
  have e1 := s_are_rules (w := w) (k := k + 1) (f := none) h.good
  have e2 := s_names_rules (w := w) (k := k + 6) (f := true) h.good
  have hnm : (rs.map fun r => r.1).map (fun r => r.nm) = rs.map fun r => r.1.nm := List.map_map ..
  rw [hnm, h.names] at e1 e2
  rw [show seqD none ((rs.map fun r => r.1).map dR) = .tup (rs.map fun r => dR r.1) by rw [List.map_map]; rfl, decide_eq_true h.len] at e1
  rw [show ((rs.map fun r => r.1).map fun r => dN r.nm) = rs.map fun r => dN r.1.nm from List.map_map ..] at e2
  have e3 := s_is_span (w := w) (k := k) (b := none) (h.cx none) hd.pl hd.sm hw hd.few
  rw [show seqD none (rs.map fun r => dR r.1) = .tup (rs.map fun r => dR r.1) from rfl, show endD none = .non from rfl] at e3
  have h1' : (0 : Int) < rs.length := by omega
  have h2' : (rs.length : Int) ≤ 6 := by omega
  cases F with
  | tup xs =>
    have hxs := plains_mem (show plains xs = true from hF)
    by_cases g1 : xs.length = rs.length
    · have e4 : mapO (fun x => (callF pg w (k + 7) 0 [x]).bind fun y => M.pure (some y)) xs = M.pure (xs.map fun d => .bl (isW d)) := mapO_all (g := fun d => .bl (isW d)) fun d hd => by rw [s_is_whole (hxs d hd), pure_bind']
      cases g2 : xs.all isW with
      | false => simp [b_is_relation, h6.1, h1', h2', e1, g1, e4, need_len, toLine (show rs.length ≤ 16777216 by omega), bAll_map, g2, factB]
      | true =>
        have hfb : factB rs.length (.tup xs) = true := by
          show (decide (xs.length = rs.length) && xs.all isW) = true
          rw [g2, decide_eq_true g1]; rfl
        obtain ⟨fs, hfs, hlf⟩ := factB_get hfb
        have hfs := D.tup.inj hfs
        subst hfs
        rw [hfb]
        have hfo := hok fs rfl
        rw [factsOf_map, Bool.true_and]
        have e5 : mapO (fun a => (subD a (.int 0)).bind fun y => M.pure (some y)) (rs.map fun r => dR r.1) = M.pure (rs.map fun r => dN r.1.nm) := mapO_map fun r hr => by rw [dR_0, pure_bind']
        have hy1 : bAll [.lst true ((fs.map D.int).map fun d => .bl (isW d))] = M.pure (.bl true) := by rw [bAll_map, g2]
        have hy2 : ((fs.map D.int).map fun d => D.bl (isW d)).length = rs.length := by rw [List.length_map]; exact g1
        generalize ((fs.map D.int).map fun d => D.bl (isW d)) = ys at e4 hy1 hy2
        simp [b_is_relation, h6.1, h1', h2', e1, e2, hlf, e4, need_len, toLine (show rs.length ≤ 16777216 by omega), hy1, hy2, e5, e3]
        cases hs : spanB ⟨ns, rs, none⟩ d with
        | false => simp
        | true =>
          obtain ⟨ps, R, rfl, hps, hl⟩ := spanB_get hs
          rw [ptsOf_map]
          have hsm := smalls_mem (show smalls [.tup (ps.map dRow), R] = true from hd.sm) (.tup (ps.map dRow)) (by simp)
          have e6 : mapO (fun x => (callF pg w (k + 7) 34 [.tup (rs.map fun r => dR r.1), .tup (fs.map .int), dN ns, x]).bind fun y => M.pure (some y)) (ps.map dRow) = M.pure (ps.map fun x => .bl (zeroQ rs fs ns x)) := by
            refine mapO_map fun x hx => ?_
            have hx2 := small_dRow (smalls_mem (show smalls (ps.map dRow) = true from hsm) (dRow x) (List.mem_map_of_mem hx))
            rw [s_is_zero_at hw h h6.2 hlf hfo (hps x hx) (lt_mono hx2 (by decide)), pure_bind']
          simp [e6, need_len, toLine (show ps.length ≤ 16777216 by omega), bAll_map]
    · simp [b_is_relation, h6.1, h1', h2', e1, show ¬ (xs.length : Int) = rs.length by omega, factB, g1]
  | _ => first | (simp [b_is_relation, h6.1, h1', h2', e1, factB]; done) | (unfold plain at hF; cases hF)
/-! ### accepts -/
theorem kg_same : kgetD ((cl w k).tab "LENGTHS") (.str "same") (.int 0) = M.pure (.int 3) := by kernel_rfl
theorem kg_apart : kgetD ((cl w k).tab "LENGTHS") (.str "apart") (.int 0) = M.pure (.int 4) := by kernel_rfl
theorem kg_parting : kgetD ((cl w k).tab "LENGTHS") (.str "parting") (.int 0) = M.pure (.int 4) := by kernel_rfl
theorem kg_relation : kgetD ((cl w k).tab "LENGTHS") (.str "relation") (.int 0) = M.pure (.int 3) := by kernel_rfl
theorem eq_sr : cmpD .Eq (.str "same") (.str "relation") = M.pure (.bl false) := by kernel_rfl
theorem eq_ar : cmpD .Eq (.str "apart") (.str "relation") = M.pure (.bl false) := by kernel_rfl
theorem eq_pr : cmpD .Eq (.str "parting") (.str "relation") = M.pure (.bl false) := by kernel_rfl
theorem eq_rr : cmpD .Eq (.str "relation") (.str "relation") = M.pure (.bl true) := by kernel_rfl
theorem in_s : cmpD .In (.str "same") (.tup [.str "within", .str "outside"]) = M.pure (.bl false) := by kernel_rfl
theorem in_a : cmpD .In (.str "apart") (.tup [.str "within", .str "outside"]) = M.pure (.bl false) := by kernel_rfl
theorem in_p : cmpD .In (.str "parting") (.tup [.str "within", .str "outside"]) = M.pure (.bl false) := by kernel_rfl
theorem acc_same (A B c : D) : callF pg w (k + 1) 28 [.tup [.str "same", A, B], c] = callF pg w k 33 [.tup [.str "same", A, B], c] := by
  rw [call_accepts]
  have h := kg_same (w := w) (k := k)
  simp at h
  simp [b_accepts, h, eq_sr, in_s, need_len, toLine]
theorem acc_apart (A B R c : D) : callF pg w (k + 1) 28 [.tup [.str "apart", A, B, R], c] = callF pg w k 33 [.tup [.str "apart", A, B, R], c] := by
  rw [call_accepts]
  have h := kg_apart (w := w) (k := k)
  simp at h
  simp [b_accepts, h, eq_ar, in_a, need_len, toLine]
theorem acc_parting (A B R c : D) : callF pg w (k + 1) 28 [.tup [.str "parting", A, B, R], c] = callF pg w k 33 [.tup [.str "parting", A, B, R], c] := by
  rw [call_accepts]
  have h := kg_parting (w := w) (k := k)
  simp at h
  simp [b_accepts, h, eq_pr, in_p, need_len, toLine]
theorem acc_relation (R F c : D) : callF pg w (k + 1) 28 [.tup [.str "relation", R, F], c] = callF pg w k 35 [R, F, c] := by
  rw [call_accepts]
  have h := kg_relation (w := w) (k := k)
  simp at h
  simp [b_accepts, h, eq_rr]
theorem acc_len {t : Str} {xs : List D} {n : Int} {c : D} (h : kgetD ((cl w k).tab "LENGTHS") (.str t) (.int 0) = M.pure (.int n)) (hn : ((xs.length : Int) + 1) ≠ n) : callF pg w (k + 1) 28 [.tup (.str t :: xs), c] = M.pure (.bl false) := by
  rw [call_accepts]
  simp at h
  have h1 : ¬ ((xs.length : Int) + 1 = 0) := by omega
  simp [b_accepts, h, h1, hn]
theorem acc_nostr {x : D} {xs : List D} {c : D} (h : plain x = true) (hs : isStr x = false) : callF pg w (k + 1) 28 [.tup (x :: xs), c] = M.pure (.bl false) := by
  rw [call_accepts]
  have h1 : ¬ ((xs.length : Int) + 1 = 0) := by omega
  simp [b_accepts, h1, isi_str h, hs]
end CK

set_option linter.all false
set_option autoImplicit false
set_option maxRecDepth 100000
set_option maxHeartbeats 1000000
namespace CK
open PySem PySem.Spec L2 Bc
variable {w k : Nat}

theorem set_get {α : Type} {s : List α} {p : Nat} {x v : α} (h : s[p]? = some x) : (s.set p v)[p]? = some v := by
  rw [List.getElem?_set]
  have : p < s.length := by
    rw [List.getElem?_eq_some_iff] at h
    exact h.1
  simp [this]
theorem s_draw {p n many : Nat} (hm : 0 < many) (hM : many < 2 ^ 340) (hn : n ≤ 1000000) : Tri (Pur p n) (callF pg w (k + 1) 38 [.loc p, .int (many : Nat)]) fun d s => (∃ j : Nat, d = .int j ∧ j < many) ∧ Pur p (n + 1) s := by
  intro s hs
  obtain ⟨a, b, c, e, h1, h2, h3, h4, h5⟩ := hs
  suffices h : Tri (· = s) (callF pg w (k + 1) 38 [.loc p, .int (many : Nat)]) fun d s => (∃ j : Nat, d = .int j ∧ j < many) ∧ Pur p (n + 1) s from h s rfl
  rw [call_law_draw]
  have hmod : ∀ x : Int, binD .Mod (.int x) (.int 28657) = M.pure (.int (x % 28657)) := fun x => binD_mod (by decide)
  have hmod2 : ∀ x : Int, binD .Mod (.int x) (.int 2147483563) = M.pure (.int (x % 2147483563)) := fun x => binD_mod (by decide)
  have hmod3 : ∀ x : Int, binD .Mod (.int x) (.int (many : Nat)) = M.pure (.int (x % many)) := fun x => binD_mod (by omega)
  have hdiv : ∀ x : Int, binD .FloorDiv (.int x) (.int 64) = M.pure (.int (x / 64)) := fun x => binD_div (pyDiv_small (by decide) (by decide))
  have m1 : binD .Mult (.int a) (.int (a % 28657 + 46337)) = M.pure (.int (a * (a % 28657 + 46337))) := binD_mul (mulOk_small (by omega) (by omega))
  have m2 : binD .Mult (.int 75011) (.int (c + 1)) = M.pure (.int (75011 * (c + 1))) := binD_mul (mulOk_small (by omega) (by omega))
  simp [b_law_draw]
  refine tri_loc e rfl ?_
  simp
  refine tri_set e rfl rfl ?_
  have e2 : (s.set p ((purse a b c).set 2 (D.int (c + 1))))[p]? = some (purse a b (c + 1)) := set_get e
  simp
  refine tri_loc e2 rfl ?_
  simp [hmod, m1]
  refine tri_loc e2 rfl ?_
  simp [m2, hmod2]
  refine tri_set e2 rfl rfl ?_
  have e3 : (s.set p ((purse a b (c + 1)).set 0 (D.int ((a * (a % 28657 + 46337) + 75011 * (c + 1) + 29) % 2147483563))))[p]? = some (purse ((a * (a % 28657 + 46337) + 75011 * (c + 1) + 29) % 2147483563) b (c + 1)) := set_get e
  have q1 : 0 ≤ (a * (a % 28657 + 46337) + 75011 * (c + 1) + 29) % 2147483563 := Int.emod_nonneg _ (by decide)
  have q2 : (a * (a % 28657 + 46337) + 75011 * (c + 1) + 29) % 2147483563 < 2147483563 := Int.emod_lt_of_pos _ (by decide)
  generalize (a * (a % 28657 + 46337) + 75011 * (c + 1) + 29) % 2147483563 = a' at e3 q1 q2 ⊢
  simp
  refine tri_loc e3 rfl ?_
  simp
  by_cases hb : 0 < b
  · simp [hb]
    refine tri_loc e3 rfl ?_
    simp
    have : bDivmod [.int b, .int (many : Nat)] = M.pure (.tup [.int (b / many), .int (b % many)]) := by
      show (if pyDiv b many then (M.pure (.tup [.int (b / many), .int (b % many)]) : M D) else stuck) = _
      rw [if_pos (divL (by omega) (lt2_nat hM) (by decide))]
    simp [this]
    refine tri_set e3 rfl rfl ?_
    simp
    refine Tri.pure fun s' hs' => ?_
    subst hs'
    refine ⟨⟨(b % many).toNat, ?_, ?_⟩, a', b / many, c + 1, ?_, q1, q2, ?_, by omega, by omega⟩
    · rw [Int.toNat_of_nonneg (Int.emod_nonneg _ (by omega))]
    · have := Int.emod_lt_of_pos b (show (0 : Int) < many by omega)
      have := Int.emod_nonneg b (show (many : Int) ≠ 0 by omega)
      omega
    · exact set_get e
    · exact Int.ediv_nonneg h3 (by omega)
  · simp [hb]
    refine tri_loc e3 rfl ?_
    simp [hdiv, hmod3]
    refine Tri.pure fun s' hs' => ?_
    subst hs'
    refine ⟨⟨(a' / 64 % many).toNat, ?_, ?_⟩, a', b, c + 1, e3, q1, q2, h3, by omega, by omega⟩
    · rw [Int.toNat_of_nonneg (Int.emod_nonneg _ (by omega))]
    · have := Int.emod_lt_of_pos (a' / 64) (show (0 : Int) < many by omega)
      have := Int.emod_nonneg (a' / 64) (show (many : Int) ≠ 0 by omega)
      omega
theorem s_one_of {p n : Nat} {b : Bool} {xs : List D} (h0 : xs ≠ []) (hM : xs.length ≤ 1000) (hn : n ≤ 1000000) : Tri (Pur p n) (callF pg w (k + 2) 39 [.loc p, .lst b xs]) fun d s => d ∈ xs ∧ Pur p (n + 1) s := by
  rw [call_law_one_of]
  simp [b_law_one_of]
  have : 0 < xs.length := List.length_pos_iff.2 h0
  refine Tri.bindF (s_draw this (by omega) hn) fun d hd => ?_
  obtain ⟨j, rfl, hj⟩ := hd
  simp [atI_ofNat, hj]
  exact Tri.pure fun s hs => ⟨List.getElem_mem hj, hs⟩

def sgn (c : Nat) : Str := ⟨#[c]⟩
def ltrs (x : Str) : Prop := ∀ c ∈ x.cps.toList, letter c = true
theorem letter_lt {c : Nat} (h : letter c = true) : c < 0x110000 := by
  have h := of_decide_eq_true h
  have : ("abcdefghijklmnopqrstuvwxyz" : Str).cps.toList.all (fun c => decide (c < 0x110000)) = true := by decide +kernel
  exact of_decide_eq_true (List.all_eq_true.1 this c h)
theorem ltrs_okS {x : Str} (h : ltrs x) : okS x = true := by
  show x.cps.all (· < 0x110000) = true
  rw [← Array.all_toList, List.all_eq_true]
  intro c hc
  exact decide_eq_true (letter_lt (h c hc))
structure Wd (x : Str) : Prop where
  len : 0 < x.length ∧ x.length ≤ 8
  lt : ltrs x
theorem Wd.ok {x : Str} (h : Wd x) : okS x = true := ltrs_okS h.lt
theorem Wd.word {x : Str} (h : Wd x) : isWord (.str x) = true := by
  show (decide (0 < x.length) && decide (x.length ≤ 8) && x.cps.toList.all letter) = true
  rw [decide_eq_true h.len.1, decide_eq_true h.len.2, List.all_eq_true.2 h.lt]
  rfl
theorem app_cps (x : Str) (c : Nat) : (x ++ sgn c).cps.toList = x.cps.toList ++ [c] := by
  show (x.cps ++ #[c]).toList = _
  simp
theorem s_name {p n : Nat} (hn : n ≤ 900000) : Tri (Pur p n) (callF pg w (k + 2) 40 [.loc p]) fun d s => (∃ x, d = .str x ∧ Wd x) ∧ Pur p (n + 9) s := by
  rw [call_law_name]
  simp [b_law_name]
  refine Tri.bindF (s_draw (many := 8) (by decide) (by decide) (by omega)) fun d hd => ?_
  obtain ⟨j, rfl, hj⟩ := hd
  simp
  rw [show (1 : Int) + (j : Int) = ((1 + j : Nat) : Int) by omega, itR1_nat (to62 (by omega)), pure_bind']
  have hl : ∀ i : Nat, i < 26 → ∃ c, subD (.str "abcdefghijklmnopqrstuvwxyz") (.int i) = M.pure (.str (sgn c)) ∧ letter c = true := by
    intro i hi
    have : ("abcdefghijklmnopqrstuvwxyz" : Str).cps.toList.length = 26 := by decide +kernel
    have hi' : i < ("abcdefghijklmnopqrstuvwxyz" : Str).cps.toList.length := by omega
    refine ⟨("abcdefghijklmnopqrstuvwxyz" : Str).cps.toList[i], ?_, decide_eq_true (List.getElem_mem hi')⟩
    have e : ∀ z : Str, z.length ≤ LINE → subD (.str z) (.int i) = ofOpt ((L2.atI z.cps.toList i).map fun c => .str ⟨#[c]⟩) := by
      intro z hz
      show (if z.length ≤ LINE then ofOpt ((L2.atI z.cps.toList i).map fun c => D.str ⟨#[c]⟩) else (stuck : M D)) = _
      rw [if_pos hz]
    rw [e _ (by decide +kernel), atI_ofNat, List.getElem?_eq_getElem hi']
    rfl
  refine Tri.bindF (Tri.pre (tri_forL
    (J := fun m env => ∃ x j, env = [.val (.loc p), .val (.str x), j] ∧ x.length = m ∧ ltrs x)
    (I := fun m s => Pur p (n + 1 + m) s) (N := 8) (n := 0) ?_ (by simp; omega) ⟨Str.empty, .un, rfl, rfl, by intro c hc; cases hc⟩) fun s hs => hs) fun r hr => ?_
  rotate_left
  · obtain ⟨env', rfl, x, j', rfl, hx, hy⟩ := hr
    simp
    rw [List.length_map, List.length_range] at hx
    refine Tri.pure fun s hs => ⟨⟨x, rfl, ⟨by omega, hy⟩⟩, hs.mono (by omega)⟩
  · intro d hd m env hm hJ Q hQ
    obtain ⟨x, jj, rfl, hx, hy⟩ := hJ
    · simp
      refine Tri.bindF ((s_draw (p := p) (n := n + 1 + m) (many := 26) (by decide) (by decide) (by omega)).pre fun s hs => hs) fun d1 hd1 => ?_
      obtain ⟨i, rfl, hi⟩ := hd1
      obtain ⟨c, e, hc⟩ := hl i hi
      rw [e, pure_bind', binD_addS]
      · simp
        refine Tri.pure fun s hs => hQ _ _ ⟨x ++ sgn c, _, rfl, ?_, ?_⟩ ?_
        · rw [len_cps, app_cps, List.length_append, ← len_cps, hx]; rfl
        · intro z hz
          rw [app_cps, List.mem_append] at hz
          rcases hz with hz | hz
          · exact hy z hz
          · have : z = c := by simpa using hz
            subst this; exact hc
        · exact hs.mono (by omega)
      · rw [hx]
        have : (sgn c).length = 1 := rfl
        rw [this]
        exact toLine (by omega)

theorem ltrs_of {x : Str} (h : x.cps.toList.all letter = true) : ltrs x := fun c hc => List.all_eq_true.1 h c hc
theorem wd_a : Wd ("a" : Str) := ⟨by decide +kernel, ltrs_of (by decide +kernel)⟩
theorem wd_b : Wd ("b" : Str) := ⟨by decide +kernel, ltrs_of (by decide +kernel)⟩
theorem s_two_names {p n : Nat} (hn : n ≤ 800000) : Tri (Pur p n) (callF pg w (k + 3) 41 [.loc p]) fun d s => (∃ x y, d = .tup [.str x, .str y] ∧ Wd x ∧ Wd y ∧ x ≠ y) ∧ Pur p (n + 18) s := by
  rw [call_law_two_names]
  simp [b_law_two_names]
  refine Tri.bindF (s_name (n := n) (by omega)) fun d hd => ?_
  obtain ⟨x, rfl, hx⟩ := hd
  refine Tri.bindF (s_name (n := n + 9) (by omega)) fun d hd => ?_
  obtain ⟨y, rfl, hy⟩ := hd
  simp [need_len, toLine]
  rw [cmpD_eq_s hx.ok hy.ok]
  by_cases e : x = y
  · subst e
    simp
    rw [cmpD_ne_s hx.ok wd_a.ok]
    by_cases e : x = ("a" : Str)
    · subst e
      simp [need_len, toLine]
      exact Tri.pure fun s hs => ⟨⟨_, _, rfl, wd_a, wd_b, by decide +kernel⟩, hs⟩
    · simp [need_len, toLine, e]
      exact Tri.pure fun s hs => ⟨⟨_, _, rfl, hx, wd_a, e⟩, hs⟩
  · simp [need_len, toLine, e]
    exact Tri.pure fun s hs => ⟨⟨_, _, rfl, hx, hy, e⟩, hs⟩
end CK

set_option linter.all false
set_option autoImplicit false
set_option maxRecDepth 100000
set_option maxHeartbeats 1000000
namespace CK
open PySem PySem.Spec L2 Bc
variable {w k : Nat}
theorem bitAndN (m n : Nat) : Builtin.bitAnd (m : Int) (n : Int) = ((m &&& n : Nat) : Int) := by
  unfold Builtin.bitAnd
  rfl
/-! ### the law's own numbers -/
def onesF : Nat → Nat → Nat
  | 0, _ => 0
  | f + 1, n => n % 2 + onesF f (n / 2)
def ones (n : Nat) : Nat := onesF n n
theorem onesF_zero : ∀ f, onesF f 0 = 0
  | 0 => rfl
  | f + 1 => by unfold onesF; rw [onesF_zero f]
theorem onesF_enough : ∀ f g n : Nat, n ≤ f → n ≤ g → onesF f n = onesF g n
  | 0, g, n, h, h' => by
    have : n = 0 := by omega
    subst this
    rw [onesF_zero, onesF_zero]
  | f + 1, 0, n, h, h' => by
    have : n = 0 := by omega
    subst this
    rw [onesF_zero, onesF_zero]
  | f + 1, g + 1, n, h, h' => by
    unfold onesF
    rw [onesF_enough f g (n / 2) (by omega) (by omega)]
theorem ones_zero : ones 0 = 0 := rfl
theorem ones_pos {n : Nat} (h : 0 < n) : ones n = n % 2 + ones (n / 2) := by
  unfold ones
  match n, h with
  | m + 1, _ =>
    show (m + 1) % 2 + onesF m ((m + 1) / 2) = _
    rw [onesF_enough m ((m + 1) / 2) ((m + 1) / 2) (by omega) (Nat.le_refl _)]
theorem ones_dbl (n d : Nat) (h : d ≤ 1) : ones (2 * n + d) = ones n + d := by
  by_cases h0 : 2 * n + d = 0
  · have : n = 0 := by omega
    have : d = 0 := by omega
    subst_vars
    rfl
  · rw [ones_pos (by omega), show (2 * n + d) % 2 = d by omega, show (2 * n + d) / 2 = n by omega]
    omega
theorem ones_le : ∀ (N n : Nat), n < 2 ^ N → ones n ≤ N
  | 0, n, h => by
    have : n = 0 := by omega
    subst this
    rw [ones_zero]; exact Nat.le_refl _
  | N + 1, n, h => by
    by_cases h0 : n = 0
    · subst h0; rw [ones_zero]; omega
    · rw [ones_pos (by omega)]
      have := ones_le N (n / 2) (by rw [Nat.pow_succ] at h; omega)
      omega
def worths : List Nat → List Int
  | [n] => [1, (n : Nat), (ones n : Nat), ((3 ^ ones n : Nat) : Int)]
  | [m, n] => [1, (m : Nat), (n : Nat), ((m &&& n : Nat) : Int)]
  | _ => []
theorem pow3_lt (n : Nat) : 3 ^ n < 2 ^ (2 * n + 1) := by
  rw [Nat.pow_succ, Nat.pow_mul]
  have : 3 ^ n ≤ (2 ^ 2) ^ n := Nat.pow_le_pow_left (by decide) n
  have : 0 < (2 ^ 2) ^ n := Nat.pow_pos (by decide)
  omega
theorem s_worths2 {m n : Nat} : callF pg w (k + 1) 46 [dRow [m, n]] = M.pure (.lst true ((worths [m, n]).map .int)) := by
  rw [call_law_worths]
  simp [b_law_worths, dRow, dNat, need_len, toLine, bitAndN, worths]
theorem s_worths1 {n : Nat} (hn : n < 2 ^ 400) (hw : BIG ≤ w) : callF pg w (k + 1) 46 [dRow [n]] = M.pure (.lst true ((worths [n]).map .int)) := by
  rw [call_law_worths]
  have hmod : ∀ x : Nat, binD .Mod (.int (x : Nat)) (.int 2) = M.pure (.int ((x % 2 : Nat) : Int)) := fun x => by
    rw [binD_mod (by decide)]; simp
  have hdiv : ∀ x : Nat, binD .FloorDiv (.int (x : Nat)) (.int 2) = M.pure (.int ((x / 2 : Nat) : Int)) := fun x => by
    rw [binD_div (pyDiv_small (by decide) (by decide))]; simp
  simp [b_law_worths, dRow, dNat, need_len, toLine, worths]
  have hw' : n < w := by
    rw [BIG_eq] at hw
    exact Nat.lt_of_lt_of_le hn (Nat.le_trans (Nat.pow_le_pow_right (by decide) (by decide)) hw)
  refine whileL_then (fun (p : Nat × Nat) => [.val (.tup [.int (n : Nat)]), .val (.int (p.1 : Nat)), .val (.int (p.2 : Nat)), .val (.int ((3 ^ p.2 : Nat) : Int))])
    (fun p => decide (0 < p.1)) (fun p => p.2 + ones p.1 = ones n) (fun p => p.1) (a := (n, 0)) (by simp) hw' ?_ ?_ ?_
  · intro p hp
    simp
  · intro p hp hc
    have hc := of_decide_eq_true hc
    have ho := ones_pos hc
    have hle : p.2 ≤ 400 := by
      have := ones_le 400 n hn
      omega
    have hp3 := pow3_lt p.2
    have hm : binD .Mult (.int ((3 ^ p.2 : Nat) : Int)) (.int 3) = M.pure (.int ((3 ^ (p.2 + 1) : Nat) : Int)) := by
      rw [binD_mul (mulL (lt2_nat hp3) (m := 2) (show (3 : Int).natAbs < 2 ^ 2 by decide) (by omega)), Nat.pow_succ]
      simp
    refine ⟨(p.1 / 2, p.2 + p.1 % 2), ?_, ?_, by show p.1 / 2 < p.1; omega⟩
    · by_cases h1 : p.1 % 2 = 1
      · have h1' : (p.1 : Int) % 2 = 1 := by omega
        simp at hm
        simp [hmod, h1, hm, hdiv, need_len, toLine]
        
      · have h0 : p.1 % 2 = 0 := by omega
        simp [hmod, h0, hdiv]
    · show p.2 + p.1 % 2 + ones (p.1 / 2) = ones n
      omega
  · intro p hp hc
    have hc := of_decide_eq_false hc
    have h0 : p.1 = 0 := by omega
    rw [h0, ones_zero] at hp
    have hp : p.2 = ones n := by omega
    simp [hp, need_len, toLine]
theorem s_worths {x : List Nat} (hl : x.length = 1 ∨ x.length = 2) (hn : ∀ n ∈ x, n < 2 ^ 400) (hw : BIG ≤ w) : callF pg w (k + 1) 46 [dRow x] = M.pure (.lst true ((worths x).map .int)) := by
  match x, hl, hn with
  | [n], _, hn => exact s_worths1 (hn n (by simp)) hw
  | [m, n], _, hn => exact s_worths2
theorem s_divisor {a b : Int} (hw : b.natAbs < w) : callF pg w (k + 1) 42 [.int a, .int b] = M.pure (.int (Nat.gcd a.natAbs b.natAbs : Nat)) := by
  rw [call_law_divisor]
  have ab : ∀ x : Int, (if x < 0 then -x else x) = (x.natAbs : Int) := fun x => by split <;> omega
  simp [b_law_divisor, need_len, toLine, ab]
  refine whileL_then (fun (p : Nat × Nat) => [.val (.int a), .val (.int b), .val (.int (p.1 : Nat)), .val (.int (p.2 : Nat))])
    (fun p => decide (0 < p.2)) (fun p => Nat.gcd p.1 p.2 = Nat.gcd a.natAbs b.natAbs) (fun p => p.2) (a := (a.natAbs, b.natAbs)) rfl hw ?_ ?_ ?_
  · intro p hp
    simp
  · intro p hp hc
    have hc := of_decide_eq_true hc
    refine ⟨(p.2, p.1 % p.2), ?_, ?_, Nat.mod_lt _ hc⟩
    · have : binD .Mod (.int (p.1 : Nat)) (.int (p.2 : Nat)) = M.pure (.int ((p.1 % p.2 : Nat) : Int)) := by
        rw [binD_mod (by omega)]
        simp
      simp [this, need_len, toLine]
    · show Nat.gcd p.2 (p.1 % p.2) = _
      rw [← hp, Nat.gcd_comm p.2, ← Nat.gcd_rec, Nat.gcd_comm]
  · intro p hp hc
    have hc := of_decide_eq_false hc
    have h0 : p.2 = 0 := by omega
    rw [h0, Nat.gcd_zero_right] at hp
    simp [hp]
/-- a fraction in lowest terms -/
theorem frac_eq {a b : Int} (hb : b ≠ 0) : ((a : Rat) / (b : Rat)) = mkRat ((if b < 0 then -1 else 1) * a) b.natAbs := by
  rw [Rat.mkRat_eq_div]
  by_cases h : b < 0
  · have e : (b.natAbs : Int) = -b := by omega
    have e2 : ((b.natAbs : Nat) : Rat) = -(b : Rat) := by
      rw [show ((b.natAbs : Nat) : Rat) = ((b.natAbs : Int) : Rat) from rfl, e, Rat.intCast_neg]
    rw [if_pos h, e2]
    have : (b : Rat) ≠ 0 := fun e => hb (by exact_mod_cast e)
    rw [show ((-1 * a : Int) : Rat) = -(a : Rat) by rw [Int.neg_one_mul, Rat.intCast_neg]]
    grind
  · have e : (b.natAbs : Int) = b := by omega
    have e2 : ((b.natAbs : Nat) : Rat) = (b : Rat) := by
      rw [show ((b.natAbs : Nat) : Rat) = ((b.natAbs : Int) : Rat) from rfl, e]
    rw [if_neg h, e2, Int.one_mul]
theorem s_fraction {a b : Int} (hb : b ≠ 0) (ha : Lt2 a 900) (hb2 : Lt2 b 900) (hw : BIG ≤ w) : callF pg w (k + 2) 43 [.int a, .int b] = M.pure (dQ ((a : Rat) / (b : Rat))) := by
  rw [call_law_fraction]
  have e1 := s_divisor (w := w) (k := k) (a := a) (b := b) (Nat.lt_of_lt_of_le hb2 (pow_le_w (by decide) hw))
  have hs : ∀ x : Int, Lt2 x 900 → binD .Mult (.int (if b < 0 then -1 else 1)) (.int x) = M.pure (.int ((if b < 0 then -1 else 1) * x)) := fun x hx => binD_mul (mulL (n := 2) (by split <;> (show _ < 2 ^ 2; decide)) hx (by decide))
  have hg0 : 0 < Nat.gcd a.natAbs b.natAbs := Nat.gcd_pos_of_pos_right _ (by omega)
  have hgl : Lt2 ((Nat.gcd a.natAbs b.natAbs : Nat) : Int) 900 := by
    have := Nat.gcd_le_right a.natAbs (show 0 < b.natAbs by omega)
    exact lt2_nat (Nat.lt_of_le_of_lt this hb2)
  have hd : ∀ x : Int, binD .FloorDiv (.int x) (.int (Nat.gcd a.natAbs b.natAbs : Nat)) = M.pure (.int (x / (Nat.gcd a.natAbs b.natAbs : Nat))) := fun x => binD_div (divL (by omega) hgl (by decide))
  have hsg : ((if b < 0 then (-1 : Int) else 1) * a).natAbs = a.natAbs := by split <;> omega
  have hsb : (if b < 0 then (-1 : Int) else 1) * b = (b.natAbs : Int) := by split <;> omega
  have eN := Rat.num_mkRat ((if b < 0 then -1 else 1) * a) b.natAbs
  have eD := Rat.den_mkRat ((if b < 0 then -1 else 1) * a) b.natAbs
  rw [hsg, Nat.gcd_comm] at eN eD
  have hb0 : ¬ b.natAbs = 0 := by omega
  rw [if_neg hb0] at eD eN
  rw [frac_eq hb]
  have eif : ∀ c : Bool, (if c = true then (M.pure (.int (-1)) : M D) else M.pure (.int 1)) = M.pure (.int (if c = true then -1 else 1)) := fun c => by cases c <;> rfl
  simp [b_law_fraction, e1]
  have eif2 : (if b < 0 then (M.pure (.int (-1)) : M D) else M.pure (.int 1)) = M.pure (.int (if b < 0 then -1 else 1)) := by split <;> rfl
  rw [eif2]
  simp [hs a ha, hs b hb2, hd, need_len, toLine, dQ, eN, eD, hsb]
end CK

set_option linter.all false
set_option autoImplicit false
set_option maxRecDepth 100000
set_option maxHeartbeats 1000000
namespace CK
open PySem PySem.Spec L2 Bc
variable {w k : Nat}
theorem s_steps {n : Nat} (h : n = 1 ∨ n = 2) : callF pg w (k + 1) 44 [.int (n : Nat)] = M.pure (.lst true ((rowsL n).map dRow)) := by
  rw [call_law_steps]
  rcases h with rfl | rfl <;> simp [b_law_steps, need_len, toLine, rowsL, dRow, dNat]
def tableL : List Nat → List (List Int)
  | [d] => [[1, 0, 0, 0], [(d : Nat), 2, 0, 0], [(d : Nat), 0, 1, 0], [0, 0, 0, 1 + 2 * ((d : Nat) : Int)]]
  | [d, f] => [[1, 0, 0, 0], [(d : Nat), 2, 0, 0], [(f : Nat), 0, 2, 0], [((d : Nat) : Int) * (f : Nat), 0, 0, 2]]
  | _ => []
def dInts (r : List Int) : D := .lst true (r.map .int)
theorem s_table {e : List Nat} (hl : e.length = 1 ∨ e.length = 2) (he : ∀ d ∈ e, d ≤ 1) : callF pg w (k + 1) 45 [dRow e] = M.pure (.lst true ((tableL e).map dInts)) := by
  rw [call_law_table]
  match e, hl, he with
  | [d], _, he =>
    have := he d (by simp)
    have hm := binD_mul (mulOk_small (i := 2) (j := (d : Int)) (by decide) (by omega))
    simp [b_law_table, dRow, dNat, need_len, toLine, hm, tableL, dInts]
  | [d, f], _, he =>
    have := he d (by simp)
    have := he f (by simp)
    have hm := binD_mul (mulOk_small (i := (d : Int)) (j := (f : Int)) (by omega) (by omega))
    simp [b_law_table, dRow, dNat, need_len, toLine, hm, tableL, dInts]
def pointsL : Nat → List (List Nat)
  | 1 => [[0], [1], [2], [3]]
  | _ => [[0, 0], [0, 1], [1, 0], [1, 1]]
/-! ### shares -/
def sh1 (a b c d : Rat) : List Rat := [(3 * a - 6 * c + d) / 4, (a - 4 * b + 10 * c - d) / 4, (a + 4 * b - 2 * c - d) / 4, (-a - 2 * c + d) / 4]
def sh2 (a b c d : Rat) : List Rat := [a - b - c + d, c - d, b - d, d]
def sharesL : List Nat → List Rat
  | [n] => sh1 1 (n : Nat) (ones n : Nat) ((3 ^ ones n : Nat) : Rat)
  | [m, n] => sh2 1 (m : Nat) (n : Nat) ((m &&& n : Nat) : Rat)
  | _ => []
theorem bSum_ints {b : Bool} (xs : List Int) : bSum [.lst b (xs.map .int)] = M.pure (.int xs.sum) := by
  show (ofOpt (asInts _)).bind _ = _
  rw [asInts_map (fun i => i)]
  simp
theorem bSum_4 {b : Bool} (x y z u : Int) : bSum [.lst b [.int x, .int y, .int z, .int u]] = M.pure (.int (x + (y + (z + u)))) := by
  have := bSum_ints (b := b) [x, y, z, u]
  simpa using this
theorem worths_lt {x : List Nat} {N : Nat} (hl : x.length = 1 ∨ x.length = 2) (hn : ∀ n ∈ x, n < 2 ^ N) : ∃ a b c d : Int, worths x = [a, b, c, d] ∧ a = 1 ∧ (Lt2 a (2 * N + 1) ∧ Lt2 b (2 * N + 1) ∧ Lt2 c (2 * N + 1) ∧ Lt2 d (2 * N + 1)) := by
  match x, hl, hn with
  | [n], _, hn =>
    have h := hn n (by simp)
    have ho := ones_le N n h
    have h1 : n < 2 ^ (2 * N + 1) := Nat.lt_of_lt_of_le h (Nat.pow_le_pow_right (by decide) (by omega))
    have h2 : ones n < 2 ^ (2 * N + 1) := Nat.lt_of_le_of_lt ho (Nat.lt_of_lt_of_le Nat.lt_two_pow_self (Nat.pow_le_pow_right (by decide) (by omega)))
    have h3 : 3 ^ ones n < 2 ^ (2 * N + 1) := Nat.lt_of_lt_of_le (pow3_lt (ones n)) (Nat.pow_le_pow_right (by decide) (by omega))
    have h4 : 1 < 2 ^ (2 * N + 1) := Nat.one_lt_two_pow (by omega)
    exact ⟨_, _, _, _, rfl, rfl, lt2_nat (n := 1) h4, lt2_nat h1, lt2_nat h2, lt2_nat h3⟩
  | [m, n], _, hn =>
    have hm := hn m (by simp)
    have hn := hn n (by simp)
    have l : 2 ^ N ≤ 2 ^ (2 * N + 1) := Nat.pow_le_pow_right (by decide) (by omega)
    have h3 : m &&& n ≤ n := Nat.and_le_right
    have h4 : 1 < 2 ^ (2 * N + 1) := Nat.one_lt_two_pow (by omega)
    exact ⟨_, _, _, _, rfl, rfl, lt2_nat (n := 1) h4, lt2_nat (by omega), lt2_nat (by omega), lt2_nat (by omega)⟩
theorem mul_low {x c : Int} {N : Nat} (h : Lt2 x N) (hN : N ≤ 999) (hc : c.natAbs < 2 ^ 60) : binD .Mult (.int x) (.int c) = M.pure (.int (x * c)) := binD_mul (mulL h hc (by omega))
theorem comb_lt {a b c d : Int} {N : Nat} (ha : Lt2 a N) (hb : Lt2 b N) (hc : Lt2 c N) (hd : Lt2 d N) (r s t u : Int) (hr : r.natAbs < 2 ^ 4) (hs : s.natAbs < 2 ^ 4) (ht : t.natAbs < 2 ^ 4) (hu : u.natAbs < 2 ^ 4) (hN : N + 7 ≤ 900) :
    Lt2 (a * r + (b * s + (c * t + d * u))) 900 := by
  have h1 := ha.mul hr
  have h2 := hb.mul hs
  have h3 := hc.mul ht
  have h4 := hd.mul hu
  have h5 := h3.add h4
  have h6 := (h2.mono (m := N + 4 + 1) (by omega)).add h5
  have h7 := (h1.mono (m := N + 4 + 1 + 1) (by omega)).add h6
  exact h7.mono (by omega)
theorem four_q {p q r s p' q' r' s' : Rat} (h1 : p = p') (h2 : q = q') (h3 : r = r') (h4 : s = s') : (M.pure (D.lst true [dQ p, dQ q, dQ r, dQ s]) : M D) = M.pure (D.lst true [dQ p', dQ q', dQ r', dQ s']) := by rw [h1, h2, h3, h4]
theorem s_shares {x : List Nat} (hl : x.length = 1 ∨ x.length = 2) (hn : ∀ n ∈ x, n < 2 ^ 400) (hw : BIG ≤ w) : callF pg w (k + 3) 47 [dRow x] = M.pure (.lst true ((sharesL x).map dQ)) := by
  rw [call_law_shares]
  have e1 := s_worths (w := w) (k := k + 1) hl hn hw
  obtain ⟨a, b, c, d, hW, h1, ha, hb, hc, hd⟩ := worths_lt hl hn
  rw [hW] at e1
  have m1 := fun z hz => mul_low (c := z) ha (by decide) hz
  have m2 := fun z hz => mul_low (c := z) hb (by decide) hz
  have m3 := fun z hz => mul_low (c := z) hc (by decide) hz
  have m4 := fun z hz => mul_low (c := z) hd (by decide) hz
  have r4 : itR1 [.int 4] = M.pure ([0, 1, 2, 3].map fun i : Int => D.int i) := by kernel_rfl
  have fr : ∀ r s t u : Int, r.natAbs < 2 ^ 4 → s.natAbs < 2 ^ 4 → t.natAbs < 2 ^ 4 → u.natAbs < 2 ^ 4 → callF pg w (k + 2) 43 [.int (a * r + (b * s + (c * t + d * u))), .int 4] = M.pure (dQ (((a * r + (b * s + (c * t + d * u)) : Int) : Rat) / ((4 : Int) : Rat))) := fun r s t u hr hs ht hu =>
    s_fraction (by decide) (comb_lt ha hb hc hd r s t u hr hs ht hu (by decide)) (show _ < 2 ^ 900 by decide) hw
  match x, hl, hW with
  | [n], _, hW =>
    have hW : worths [n] = [a, b, c, d] := hW
    have hx : subD (dRow [n]) (.int 0) = M.pure (.int (n : Nat)) := rfl
    have hlx : bLen [dRow [n]] = M.pure (.int 1) := rfl
    simp [b_law_shares, need_len, toLine, hlx, e1, r4, mapO_cons1, mapO_nil]
    simp (disch := decide) only [m1, m2, m3, m4, pure_bind', noX_pure, List.length_cons, List.length_nil, bSum_4]
    simp (disch := decide) only [need_len (toLine (show 0 + 1 + 1 + 1 + 1 ≤ 16777216 by decide)), pure_bind', fr]
    have hW : [(1 : Int), (n : Nat), (ones n : Nat), ((3 ^ ones n : Nat) : Int)] = [a, b, c, d] := hW
    simp only [List.cons.injEq, and_true] at hW
    obtain ⟨rfl, rfl, rfl, rfl⟩ := hW
    simp only [Rat.intCast_add, Rat.intCast_mul, noX_pure, pure_bind', List.length_cons, List.length_nil, need_len (toLine (show 0 + 1 + 1 + 1 + 1 ≤ 16777216 by decide)), sharesL, sh1, List.map_cons, List.map_nil, Rat.intCast_natCast]
    refine four_q ?_ ?_ ?_ ?_
    all_goals grind
  | [m, n], _, hW =>
    have hW : worths [m, n] = [a, b, c, d] := hW
    have hlx : bLen [dRow [m, n]] = M.pure (.int 2) := rfl
    simp [b_law_shares, need_len, toLine, hlx, e1, r4, mapO_cons1, mapO_nil]
    simp (disch := decide) only [m1, m2, m3, m4, pure_bind', noX_pure, List.length_cons, List.length_nil, bSum_4]
    simp (disch := decide) only [need_len (toLine (show 0 + 1 + 1 + 1 + 1 ≤ 16777216 by decide)), pure_bind', fr]
    have hW : [(1 : Int), (m : Nat), (n : Nat), ((m &&& n : Nat) : Int)] = [a, b, c, d] := hW
    simp only [List.cons.injEq, and_true] at hW
    obtain ⟨rfl, rfl, rfl, rfl⟩ := hW
    simp only [Rat.intCast_add, Rat.intCast_mul, noX_pure, pure_bind', List.length_cons, List.length_nil, need_len (toLine (show 0 + 1 + 1 + 1 + 1 ≤ 16777216 by decide)), sharesL, sh2, List.map_cons, List.map_nil, Rat.intCast_natCast]
    refine four_q ?_ ?_ ?_ ?_
    all_goals grind
end CK

set_option linter.all false
set_option autoImplicit false
set_option maxRecDepth 100000
set_option maxHeartbeats 1000000
namespace CK
open PySem PySem.Spec L2 Bc
variable {w k : Nat}
theorem nobs_ints (a b c : Int) : nobs [.int a, .int b, .int c] = true := rfl
theorem pow1018 : binD .Pow (.int 10) (.int 18) = M.pure (.int 1000000000000000000) := by kernel_rfl
theorem s_purse (c : Int) : Tri (fun _ => True) (callF pg w (k + 1) 37 [.int c]) fun d s => ∃ p, d = .loc p ∧ Pur p 0 s := by
  rw [call_law_purse]
  have hmod : binD .Mod (.int c) (.int 2147483563) = M.pure (.int (c % 2147483563)) := binD_mod (by decide)
  obtain ⟨b, hb, e⟩ : ∃ b : Int, 0 ≤ b ∧ evE (cl w k) (.ite (.or (.cmp .Lt (.var 0) (.int 0)) (.cmp .GtE (.var 0) (.bin .Pow (.int 10) (.int 18)))) (.bi .abs (.cons (.bi .int1 (.cons (.var 0) .nil)) .nil)) (.int 0)) [.val (.int c), .un] = M.pure (.int b) := by
    by_cases h1 : c < 0
    · exact ⟨-c, by omega, by simp [h1]⟩
    · by_cases h2 : (1000000000000000000 : Int) ≤ c
      · exact ⟨c, by omega, by simp [h1, pow1018, h2]⟩
      · exact ⟨0, by omega, by simp [h1, pow1018, h2]⟩
  simp only [b_law_purse, evSs_cons, evS_asg, e, pure_bind']
  simp [hmod, need_len, toLine]
  intro s hs
  refine ⟨.loc s.length, s ++ [[.int (c % 2147483563), .int b, .int 0]], ?_, s.length, rfl, c % 2147483563, b, 0, ?_, Int.emod_nonneg _ (by decide), Int.emod_lt_of_pos _ (by decide), hb, by omega, by omega⟩
  · have : newLoc [.int (c % 2147483563), .int b, .int 0] s = .ok (.loc s.length, s ++ [[.int (c % 2147483563), .int b, .int 0]]) := by
      unfold newLoc
      rw [nobs_ints]
      rfl
    exact this
  · rw [List.getElem?_append_right (Nat.le_refl _), Nat.sub_self]
    rfl
theorem s_cell (ns : List Int) {t : Nat} (ht : t ≤ 10) : Ret (callF pg w (k + 1) 36 [.ro (ns.map .int), .int (t : Nat)]) fun r => ∃ c, r = .int c := by
  rw [call_law_cell]
  by_cases h : t < ns.length
  · simp [b_law_cell, h, atI_ofNat]
    exact Ret.pure ⟨_, rfl⟩
  · have hmod : ∀ x : Int, binD .Mod (.int x) (.int 2147483563) = M.pure (.int (x % 2147483563)) := fun x => binD_mod (by decide)
    have hq : (t : Int) * (t : Int) ≤ 100 ∧ 0 ≤ (t : Int) * (t : Int) := by
      have := Nat.mul_le_mul ht ht
      exact ⟨by exact_mod_cast this, by exact_mod_cast Nat.zero_le (t * t)⟩
    have m1 : binD .Mult (.int (t : Nat)) (.int (t : Nat)) = M.pure (.int ((t : Int) * t)) := binD_mul (mulOk_small (by omega) (by omega))
    have m2 : binD .Mult (.int 17) (.int (t : Nat)) = M.pure (.int (17 * (t : Int))) := binD_mul (mulOk_small (by omega) (by omega))
    have m3 : binD .Mult (.int 68927) (.int ((t : Int) * t + 17 * t + 3)) = M.pure (.int (68927 * ((t : Int) * t + 17 * t + 3))) := binD_mul (mulOk_small (by omega) (by omega))
    have hs : sliceD (.ro (ns.map .int)) none (some 3) = M.pure (.lst true ((ns.take 3).map .int)) := by
      show (M.pure (D.lst true (cutD (ns.map .int) none (some ((3 : Nat) : Int)))) : M D) = _
      rw [cut_to, List.map_take]
    simp [b_law_cell, h, m1, m2, m3, hmod, hs]
    rw [← List.map_take]
    refine forL_ret (e := fun c : Int => D.int c) (fun (a : Int) (j : Slot) => [.val (.ro (ns.map .int)), .val (.int (t : Nat)), .val (.int a), j])
      (fun a c => (a * 52361 + c) % 2147483563) (fun a => 0 ≤ a ∧ a < 2147483563) (xs := ns.take 3) (a := 68927 * ((t : Int) * t + 17 * t + 3) % 2147483563) (j := .un) ⟨Int.emod_nonneg _ (by decide), Int.emod_lt_of_pos _ (by decide)⟩ ?_ ?_
    · intro c hc a j ha
      refine ⟨⟨Int.emod_nonneg _ (by decide), Int.emod_lt_of_pos _ (by decide)⟩, ?_⟩
      have m4 : binD .Mult (.int a) (.int 52361) = M.pure (.int (a * 52361)) := binD_mul (mulOk_small (by omega) (by omega))
      simp [m4, hmod]
      exact Ret.pure ⟨_, rfl⟩
    · intro j hI
      simp
      exact Ret.pure ⟨_, rfl⟩

/-! ### which point is ahead -/
theorem maxBits_alt (ns : List Nat) : ∀ a : Nat, ns.foldl (fun (a n : Nat) => if Builtin.Int.intBits (n : Int) > a then Builtin.Int.intBits (n : Int) else a) a = maxBits ns a := by
  induction ns with
  | nil => intro a; rfl
  | cons n r ih =>
    intro a
    rw [List.foldl_cons, ih]
    show _ = maxBits r _
    congr 1
    split <;> split <;> omega
/-! ### factors -/
def factorL : List Int := [0, 0, 1, -1, 2, 7, 1000000000000, -5]
theorem factorL_lt {f : Int} (h : f ∈ factorL) : Lt2 f 40 := by
  revert f
  show ∀ f ∈ factorL, f.natAbs < 2 ^ 40
  decide
theorem s_factors {p n : Nat} (hn : n ≤ 900000) : Tri (Pur p n) (callF pg w (k + 3) 49 [.loc p]) fun d s => (∃ fs : List Int, d = dInts fs ∧ fs.length = 4 ∧ ∀ f ∈ fs, f ∈ factorL) ∧ Pur p (n + 4) s := by
  rw [call_law_factors]
  have r4 : itR1 [.int 4] = M.pure ([0, 1, 2, 3].map fun i : Int => D.int i) := by kernel_rfl
  have pw : binD .Pow (.int 10) (.int 12) = M.pure (.int 1000000000000) := by kernel_rfl
  simp [b_law_factors, r4, pw, need_len, toLine]
  refine Tri.bindF (Tri.noX (Tri.pre (tri_mapP (P := fun y => ∃ f : Int, y = .int f ∧ f ∈ factorL) (I := fun i s => Pur p (n + i) s) (N := 4) (n := 0) ?_ (by simp)) fun s hs => hs)) fun ys hys => ?_
  · intro x hx i hi Q hQ
    try simp
    refine Tri.bindF (s_one_of (by simp) (by simp) (by omega)) fun d hd => ?_
    have : ∃ f : Int, d = .int f ∧ f ∈ factorL := by
      simp at hd
      rcases hd with rfl | rfl | rfl | rfl | rfl | rfl | rfl <;> exact ⟨_, rfl, by decide⟩
    exact Tri.pure fun s hs => hQ _ _ this hs
  · obtain ⟨fs, rfl, g1, g2⟩ := lift_map (g := D.int) (G := fun r => r ∈ factorL) hys.2
    rw [hys.1] at g1
    have g1 : fs.length = 4 := by simpa using g1
    rw [need_len (by rw [List.length_map, g1]; exact toLine (by decide)), pure_bind']
    exact Tri.pure fun s hs => ⟨⟨fs, rfl, g1, g2⟩, hs.mono (by simp)⟩
/-! ### the value -/
def valueL (fs : List Int) (x : List Nat) : Int := match fs, worths x with
  | [r, s, t, u], [a, b, c, d] => r * a + (s * b + (t * c + u * d))
  | _, _ => 0
end CK

set_option linter.all false
set_option autoImplicit false
set_option maxRecDepth 100000
set_option maxHeartbeats 1000000
namespace CK
open PySem PySem.Spec L2 Bc
variable {w k : Nat}
/-! ### a span made -/
def aheadE (p : List Nat) : Option (List Nat) → Bool
  | none => true
  | some e => aheadB p e
def lateE (t : List Nat) : Option (List Nat) → Bool
  | none => false
  | some e => !aheadB t e
def ptsE (n : Nat) (e : Option (List Nat)) : List (List Nat) := (pointsL n).filter fun p => aheadE p e
def shareD (n : Nat) (e : Option (List Nat)) (t : List Nat) : D := if lateE t e then .non else dVec ((sharesL t).take (ptsE n e).length)
def rowD (n : Nat) (e : Option (List Nat)) (x : List Nat) : D := .tup ((rowsL n).map fun st => shareD n e (dbl x st))
def spanD (n : Nat) (e : Option (List Nat)) : D := .tup [.tup ((ptsE n e).map dRow), .tup ((ptsE n e).map (rowD n e))]
theorem points_ok {n : Nat} (h : n = 1 ∨ n = 2) : ∀ x ∈ pointsL n, x.length = n ∧ ∀ a ∈ x, a < 2 ^ 2 := by
  rcases h with rfl | rfl
  · show ∀ x ∈ [[0], [1], [2], [3]], x.length = 1 ∧ ∀ a ∈ x, a < 2 ^ 2
    decide
  · show ∀ x ∈ [[0, 0], [0, 1], [1, 0], [1, 1]], x.length = 2 ∧ ∀ a ∈ x, a < 2 ^ 2
    decide
theorem pts_len (n : Nat) (e : Option (List Nat)) : (ptsE n e).length ≤ 4 := by
  refine Nat.le_trans (List.length_filter_le _ _) ?_
  unfold pointsL
  split <;> decide
theorem dbl_range {n : Nat} (h : n = 1 ∨ n = 2) {x st : List Nat} (hx : x.length = n) (hs : st.length = n) : (List.range n).map (fun i : Nat => D.int (((2 * (x[i]?.getD 0) + (st[i]?.getD 0) : Nat)) : Int)) = dNat (dbl x st) := by
  rcases h with rfl | rfl
  · match x, st, hx, hs with
    | [a], [b], _, _ => rfl
  · match x, st, hx, hs with
    | [a, c], [b, d], _, _ => rfl
end CK

set_option linter.all false
set_option autoImplicit false
set_option maxRecDepth 100000
set_option maxHeartbeats 1000000
namespace CK
open PySem PySem.Spec L2 Bc
variable {w k : Nat}
/-! ### a rule made -/
def ordersL : List (List Nat) := [[0, 1, 2, 3], [3, 0, 2, 1], [1, 2, 3, 0], [2, 3, 0, 1, 0], [0, 3, 1, 2, 2]]
def iat (xs : List Int) (i : Nat) : Int := (xs[i]?).getD 0
def nat (o : List Nat) (i : Nat) : Nat := (o[i]?).getD 0
def rowT (e o : List Nat) (i j : Nat) : Int := if o.idxOf (nat o j) = j then iat (((tableL e)[nat o i]?).getD []) (nat o j) else 0
/-- a fraction -/
def frq (a b : Int) : Rat := (a : Rat) / (b : Rat)
theorem s_frq {a b : Int} (hb : b ≠ 0) (ha : Lt2 a 900) (hb2 : Lt2 b 900) (hw : BIG ≤ w) : callF pg w (k + 2) 43 [.int a, .int b] = M.pure (dQ (frq a b)) := s_fraction hb ha hb2 hw
def sideT (e o : List Nat) (sc : List Int) : List (List Rat) := (List.range o.length).map fun i => (List.range o.length).map fun j => frq (iat sc i * rowT e o i j) (iat sc j)
def zeroL (n : Nat) : List Nat := List.replicate n 0
def toldI (o : List Nat) (fs : List Int) (i : Nat) : Int := if o.idxOf (nat o i) = i then iat fs (nat o i) else 0
def ruleOf (nm : List Str) (o : List Nat) (sc fs : List Int) : Rl where
  nm := nm
  S := (rowsL nm.length).map fun e => sideT e o sc
  F := (List.range o.length).map fun i => iat sc i * iat (worths (zeroL nm.length)) (nat o i)
  T := (List.range o.length).map fun i => frq (toldI o fs i) (iat sc i)
def scaleL : List Int := [1, 2, -3, 5]
def dNats (o : List Nat) : D := .lst true (dNat o)
theorem orders_ok {o : List Nat} (h : o ∈ ordersL) : o.length ≤ 5 ∧ (∀ a ∈ o, a < 4) ∧ o ≠ [] := by
  revert o
  show ∀ o ∈ ordersL, o.length ≤ 5 ∧ (∀ a ∈ o, a < 4) ∧ o ≠ []
  decide
theorem scale_ok {i : Int} (h : i ∈ scaleL) : i ≠ 0 ∧ Lt2 i 3 := by
  revert i
  show ∀ i ∈ scaleL, i ≠ 0 ∧ i.natAbs < 2 ^ 3
  decide
theorem table_ok {e : List Nat} (hl : e.length = 1 ∨ e.length = 2) (he : ∀ d ∈ e, d ≤ 1) : (tableL e).length = 4 ∧ ∀ r ∈ tableL e, r.length = 4 ∧ ∀ i ∈ r, i.natAbs < 2 ^ 2 := by
  match e, hl, he with
  | [d], _, he =>
    have := he d (by simp)
    refine ⟨rfl, ?_⟩
    have hd : d = 0 ∨ d = 1 := by omega
    rcases hd with rfl | rfl <;> decide
  | [d, f], _, he =>
    have := he d (by simp)
    have := he f (by simp)
    refine ⟨rfl, ?_⟩
    have hd : d = 0 ∨ d = 1 := by omega
    have hf : f = 0 ∨ f = 1 := by omega
    rcases hd with rfl | rfl <;> rcases hf with rfl | rfl <;> decide
theorem sub_nats {o : List Nat} {i : Nat} (h : i < o.length) : subD (dNats o) (.int (i : Nat)) = M.pure (.int (nat o i : Nat)) := by
  unfold dNats dNat nat
  rw [subD_lst, atI_ofNat, List.getElem?_map, List.getElem?_eq_getElem h]
  rfl
theorem sub_ints {xs : List Int} {i : Nat} (h : i < xs.length) : subD (dInts xs) (.int (i : Nat)) = M.pure (.int (iat xs i)) := by
  unfold dInts iat
  rw [subD_lst, atI_ofNat, List.getElem?_map, List.getElem?_eq_getElem h]
  rfl
theorem nat_mem {o : List Nat} {i : Nat} (h : i < o.length) : nat o i ∈ o := by
  unfold nat
  rw [List.getElem?_eq_getElem h]
  exact List.getElem_mem h
theorem iat_mem {o : List Int} {i : Nat} (h : i < o.length) : iat o i ∈ o := by
  unfold iat
  rw [List.getElem?_eq_getElem h]
  exact List.getElem_mem h
theorem index_nats {o : List Nat} {a : Nat} (h : a ∈ o) : bmD .index (dNats o) [.int (a : Nat)] = M.pure (.int (o.idxOf a : Nat)) := Enc.nat.index (by decide) h
theorem sub_tab {e : List Nat} {i : Nat} (h : i < (tableL e).length) : subD (.lst true ((tableL e).map dInts)) (.int (i : Nat)) = M.pure (dInts (((tableL e)[i]?).getD [])) := by
  rw [subD_lst, atI_ofNat, List.getElem?_map, List.getElem?_eq_getElem h]
  rfl
theorem zero_pts {n : Nat} (h : n = 1 ∨ n = 2) : (zeroL n).length = n ∧ ∀ a ∈ zeroL n, a < 2 ^ 2 := by
  rcases h with rfl | rfl <;> (refine ⟨rfl, ?_⟩; decide)
structure Lay (o : List Nat) (sc : List Int) : Prop where
  ord : o ∈ ordersL
  len : sc.length = o.length
  low : ∀ i ∈ sc, i ∈ scaleL
def Ruled (nm : List Str) (fs : List Int) (d : D) : Prop := ∃ o sc, Lay o sc ∧ d = dR (ruleOf nm o sc fs)
theorem s_rule {p n : Nat} (hn : n ≤ 900000) {nm : List Str} {fb : Bool} (hnm : nm.length = 1 ∨ nm.length = 2) {fs : List Int} (hf : fs.length = 4) (hf2 : ∀ f ∈ fs, Lt2 f 90) (hw : BIG ≤ w) :
    Tri (Pur p n) (callF pg w (k + 3) 48 [.loc p, .lst fb (nm.map .str), dInts fs]) fun d s => Ruled nm fs d ∧ Pur p (n + 6) s := by
  rw [call_law_rule]
  have hs5 := s_draw (w := w) (k := k + 1) (p := p) (n := n) (many := 5) (by decide) (by decide) (by omega)
  simp at hs5
  simp [b_law_rule, need_len, toLine]
  refine Tri.bindF hs5 fun d hd => ?_
  obtain ⟨j, rfl, hj⟩ := hd
  have eo : ∃ o ∈ ordersL, subD (.lst true [.lst true [.int 0, .int 1, .int 2, .int 3], .lst true [.int 3, .int 0, .int 2, .int 1], .lst true [.int 1, .int 2, .int 3, .int 0], .lst true [.int 2, .int 3, .int 0, .int 1, .int 0], .lst true [.int 0, .int 3, .int 1, .int 2, .int 2]]) (.int (j : Nat)) = M.pure (dNats o) := by
    match j, hj with
    | 0, _ => exact ⟨[0, 1, 2, 3], by decide, rfl⟩
    | 1, _ => exact ⟨[3, 0, 2, 1], by decide, rfl⟩
    | 2, _ => exact ⟨[1, 2, 3, 0], by decide, rfl⟩
    | 3, _ => exact ⟨[2, 3, 0, 1, 0], by decide, rfl⟩
    | 4, _ => exact ⟨[0, 3, 1, 2, 2], by decide, rfl⟩
  obtain ⟨o, ho, eo⟩ := eo
  obtain ⟨o5, o4, o0⟩ := orders_ok ho
  have iso : itSeq [dNats o] = M.pure (dNat o) := rfl
  have lno : bLen [dNats o] = M.pure (.int (o.length : Nat)) := by
    show (M.pure (D.int ((dNat o).length : Nat)) : M D) = _
    unfold dNat
    rw [List.length_map]
  rw [eo, pure_bind', iso]
  simp
  refine Tri.bindF (Tri.noX (Tri.pre (tri_mapP (P := fun y => ∃ f : Int, y = .int f ∧ f ∈ scaleL) (I := fun i s => Pur p (n + 1 + i) s) (N := 5) (n := 0) ?_ (by unfold dNat; rw [List.length_map]; omega)) fun s hs => hs)) fun ys hys => ?_
  · intro x hx i hi Q hQ
    refine Tri.bindF (s_one_of (by simp) (by simp) (by omega)) fun d hd => ?_
    have : ∃ f : Int, d = .int f ∧ f ∈ scaleL := by
      simp at hd
      rcases hd with rfl | rfl | rfl | rfl <;> exact ⟨_, rfl, by decide⟩
    exact Tri.pure fun s hs => hQ _ _ this hs
  obtain ⟨sc, rfl, g1, g2⟩ := lift_map (g := D.int) (G := fun r => r ∈ scaleL) hys.2
  have g1 : sc.length = o.length := by
    rw [hys.1] at g1
    rw [g1]
    unfold dNat
    rw [List.length_map]
  refine Tri.eq (m' := M.pure (dR (ruleOf nm o sc fs))) ?_ (Tri.pure fun s hs => ⟨⟨o, sc, ⟨ho, g1, g2⟩, rfl⟩, hs.mono (by unfold dNat; rw [List.length_map]; omega)⟩)
  have hnm2 : nm.length ≤ 2 := by omega
  have es := s_steps (w := w) (k := k + 1) hnm
  obtain ⟨z1, z2⟩ := zero_pts hnm
  have ez := zeros_mul nm.length (by omega)
  have ew := s_worths (w := w) (k := k + 1) (x := zeroL nm.length) (by omega) (lt_mono z2 (by decide)) hw
  obtain ⟨wa, wb, wc, wd, hW, hw1, hwa, hwb, hwc, hwd⟩ := worths_lt (x := zeroL nm.length) (by omega) z2
  have hWl : (worths (zeroL nm.length)).length = 4 := by rw [hW]; rfl
  have hWs : ∀ i ∈ worths (zeroL nm.length), Lt2 i 5 := by
    rw [hW]
    intro i hi
    simp at hi
    rcases hi with rfl | rfl | rfl | rfl
    · exact hwa
    · exact hwb
    · exact hwc
    · exact hwd
  have hsI : D.lst true (sc.map .int) = dInts sc := rfl
  have ezL : dRow (List.replicate nm.length 0) = dRow (zeroL nm.length) := rfl
  rw [ezL] at ez
  rw [need_len (by rw [List.length_map]; exact toLine (by omega)), pure_bind', hsI]
  simp [need_len, toLine, es]
  refine Ret.eq ?_
  refine forL_pos_ret (e := dRow) (fun (v : List D) (j : Slot × Slot × Slot × Slot × Slot × Slot × Slot) => [.val (.loc p), .val (.lst fb (nm.map .str)), .val (dInts fs), .val (dNats o), .val (dInts sc), .own v, j.1, .un, .un, .un, j.2.1, .un, j.2.2.1, j.2.2.2.1, j.2.2.2.2.1])
    (xs := rowsL nm.length) (fun i => ((rowsL nm.length).take i).map fun e => dSide (sideT e o sc)) (j := (.un, .un, .un, .un, .un, .un, .un)) ?_ ?_
  · intro i hi j
    obtain ⟨hs1, hs2⟩ := rowsL_ok (by omega) _ (List.getElem_mem hi)
    have hL : (rowsL nm.length).length ≤ 4 := by rcases hnm with e | e <;> rw [e] <;> decide
    have ht : ((rowsL nm.length).take (i + 1)).map (fun e => dSide (sideT e o sc)) = ((rowsL nm.length).take i).map (fun e => dSide (sideT e o sc)) ++ [dSide (sideT (rowsL nm.length)[i] o sc)] := by
      rw [List.take_succ, List.getElem?_eq_getElem hi, List.map_append]
      rfl
    rw [ht]
    have hlr : (((rowsL nm.length).take i).map (fun e => dSide (sideT e o sc))).length ≤ 4 := by rw [List.length_map, List.length_take]; omega
    generalize ((rowsL nm.length).take i).map (fun e => dSide (sideT e o sc)) = v at *
    generalize (rowsL nm.length)[i] = e at *
    have et := s_table (w := w) (k := k + 1) (e := e) (by omega) hs2
    obtain ⟨t1, t2⟩ := table_ok (e := e) (by omega) hs2
    simp [et, need_len, toLine, lno]
    rw [itR1_nat (to62 (by omega)), pure_bind']
    refine forL_pos_ret (e := fun m : Nat => D.int (m : Nat)) (fun (r : List D) (j : Slot × Slot) => [.val (.loc p), .val (.lst fb (nm.map .str)), .val (dInts fs), .val (dNats o), .val (dInts sc), .own v, .val (dRow e), .un, .un, .un, j.1, .un, .val (.lst true ((tableL e).map dInts)), .own r, j.2])
      (xs := List.range o.length) (fun i => ((List.range o.length).take i).map fun i => dVec ((List.range o.length).map fun j => frq (iat sc i * rowT e o i j) (iat sc j))) (j := (j.2.1, j.2.2.2.2.1)) ?_ ?_
    · intro i hi j
      have ht : ((List.range o.length).take (i + 1)).map (fun i => dVec ((List.range o.length).map fun j => frq (iat sc i * rowT e o i j) (iat sc j))) = ((List.range o.length).take i).map (fun i => dVec ((List.range o.length).map fun j => frq (iat sc i * rowT e o i j) (iat sc j))) ++ [dVec ((List.range o.length).map fun j => frq (iat sc i * rowT e o i j) (iat sc j))] := by
        rw [List.take_succ, List.getElem?_eq_getElem hi, List.map_append, List.getElem_range]
        rfl
      rw [ht, List.getElem_range]
      rw [List.length_range] at hi
      have hlr : (((List.range o.length).take i).map (fun i => dVec ((List.range o.length).map fun j => frq (iat sc i * rowT e o i j) (iat sc j)))).length ≤ 5 := by rw [List.length_map, List.length_take, List.length_range]; omega
      generalize ((List.range o.length).take i).map (fun i => dVec ((List.range o.length).map fun j => frq (iat sc i * rowT e o i j) (iat sc j))) = r at *
      have hoi := o4 _ (nat_mem hi)
      have hti : nat o i < (tableL e).length := by omega
      have hrow := t2 _ (show ((tableL e)[nat o i]?).getD [] ∈ tableL e by rw [List.getElem?_eq_getElem hti]; exact List.getElem_mem hti)
      have hT : ∀ j, j < o.length → (rowT e o i j).natAbs < 2 ^ 2 := by
        intro j hj
        unfold rowT
        split
        · have : nat o j < (((tableL e)[nat o i]?).getD []).length := by rw [hrow.1]; exact o4 _ (nat_mem hj)
          exact hrow.2 _ (iat_mem this)
        · decide
      simp [lno]
      rw [itR1_nat (to62 (by omega)), pure_bind', mapO_map (g := fun j : Nat => D.int (rowT e o i j))]
      rotate_left
      · intro j hj
        rw [List.mem_range] at hj
        have a1 := sub_nats hj
        have a2 := index_nats (nat_mem hj)
        have a3 := sub_tab hti
        have a4 := sub_nats hi
        have hjl : nat o j < (((tableL e)[nat o i]?).getD []).length := by rw [hrow.1]; exact o4 _ (nat_mem hj)
        have a5 := sub_ints hjl
        unfold rowT
        by_cases hc : o.idxOf (nat o j) = j
        · have hc' : ((o.idxOf (nat o j) : Nat) : Int) = (j : Int) := by omega
          rw [if_pos hc]
          rw [subD_lst] at a3
          simp [a1, a2, hc', a4, a3, a5]
        · have hc' : ¬ ((o.idxOf (nat o j) : Nat) : Int) = (j : Int) := by omega
          rw [if_neg hc]
          simp [a1, a2, hc']
      rw [noX_pure, pure_bind', need_len (by rw [List.length_map, List.length_range]; exact toLine (by omega)), pure_bind']
      try simp [lno]
      try rw [itR1_nat (to62 (by omega)), pure_bind']
      rw [mapO_map (g := fun j : Nat => dQ (frq (iat sc i * rowT e o i j) (iat sc j)))]
      rotate_left
      · intro j hj
        rw [List.mem_range] at hj
        have a1 := sub_ints (xs := sc) (i := i) (by omega)
        have a2 := sub_ints (xs := sc) (i := j) (by omega)
        have a3 : L2.atI ((List.range o.length).map fun j : Nat => D.int (rowT e o i j)) (j : Int) = some (.int (rowT e o i j)) := by
          rw [atI_ofNat, List.getElem?_map, List.getElem?_range hj]; rfl
        obtain ⟨b1, b2⟩ := scale_ok (g2 _ (iat_mem (show i < sc.length by omega)))
        obtain ⟨b3, b4⟩ := scale_ok (g2 _ (iat_mem (show j < sc.length by omega)))
        have b5 : Lt2 (rowT e o i j) 2 := hT j hj
        have m := binD_mul (mulL b2 b5 (by decide))
        have fr := s_frq (w := w) (k := k) b3 ((b2.mul b5).mono (by decide)) (b4.mono (by decide)) hw
        simp [a1, a2, a3, m, fr]
      rw [noX_pure, pure_bind', need_len (by rw [List.length_map, List.length_range]; exact toLine (by omega)), pure_bind']
      have hr : need (decide (r.length < LINE)) = M.pure () := need_of (decide_eq_true (show r.length < 16777216 by omega))
      have hfin : D.tup ((List.range o.length).map fun j : Nat => dQ (frq (iat sc i * rowT e o i j) (iat sc j))) = dVec ((List.range o.length).map fun j => frq (iat sc i * rowT e o i j) (iat sc j)) := by
        unfold dVec
        rw [List.map_map]
        rfl
      rw [hfin]
      simp [hr]
      exact Ret.pure ⟨_, _, rfl⟩
    · intro j
      have hv : need (decide (v.length < LINE)) = M.pure () := need_of (decide_eq_true (show v.length < 16777216 by omega))
      rw [List.take_length]
      have hfin : D.tup ((List.range o.length).map fun i => dVec ((List.range o.length).map fun j => frq (iat sc i * rowT e o i j) (iat sc j))) = dSide (sideT e o sc) := by
        unfold dSide sideT
        rw [List.map_map]
        rfl
      simp [hv, hfin]
      exact Ret.pure (by simp)
  · intro j
    rw [List.take_length]
    simp [need_len, toLine, ez, ew, lno]
    rw [itR1_nat (to62 (by omega)), pure_bind', mapO_map (g := fun i : Nat => D.int (iat sc i * iat (worths (zeroL nm.length)) (nat o i)))]
    rotate_left
    · intro i hi
      rw [List.mem_range] at hi
      have a1 := sub_ints (xs := sc) (i := i) (by omega)
      have a2 := sub_nats hi
      have hoi := o4 _ (nat_mem hi)
      have a3 := sub_ints (xs := worths (zeroL nm.length)) (i := nat o i) (by omega)
      obtain ⟨b1, b2⟩ := scale_ok (g2 _ (iat_mem (show i < sc.length by omega)))
      have m := binD_mul (mulL b2 (hWs _ (iat_mem (show nat o i < (worths (zeroL nm.length)).length by omega))) (by decide))
      unfold dInts at a3
      rw [subD_lst] at a3
      simp [a1, a2, a3, m]
    rw [noX_pure, pure_bind', need_len (by rw [List.length_map, List.length_range]; exact toLine (by omega)), pure_bind']
    try simp [lno]
    try rw [itR1_nat (to62 (by omega)), pure_bind']
    rw [mapO_map (g := fun i : Nat => dQ (frq (toldI o fs i) (iat sc i)))]
    rotate_left
    · intro i hi
      rw [List.mem_range] at hi
      have a1 := sub_ints (xs := sc) (i := i) (by omega)
      have a2 := sub_nats hi
      have a3 := index_nats (nat_mem hi)
      have hoi := o4 _ (nat_mem hi)
      have a4 := sub_ints (xs := fs) (i := nat o i) (by omega)
      obtain ⟨b1, b2⟩ := scale_ok (g2 _ (iat_mem (show i < sc.length by omega)))
      unfold toldI
      by_cases hc : o.idxOf (nat o i) = i
      · have hc' : ((o.idxOf (nat o i) : Nat) : Int) = (i : Int) := by omega
        have fr := s_frq (w := w) (k := k) (a := iat fs (nat o i)) b1 ((hf2 _ (iat_mem (show nat o i < fs.length by omega))).mono (by decide)) (b2.mono (by decide)) hw
        rw [if_pos hc]
        simp [a1, a2, a3, hc', a4, fr]
      · have hc' : ¬ ((o.idxOf (nat o i) : Nat) : Int) = (i : Int) := by omega
        have fr := s_frq (w := w) (k := k) (a := 0) b1 (show (0 : Nat) < 2 ^ 900 by decide) (b2.mono (by decide)) hw
        rw [if_neg hc]
        simp [a1, a2, a3, hc', fr]
    rw [noX_pure, pure_bind', need_len (by rw [List.length_map, List.length_range]; exact toLine (by omega)), pure_bind']
    have f1 : D.tup ((rowsL nm.length).map fun e => dSide (sideT e o sc)) = .tup ((ruleOf nm o sc fs).S.map dSide) := by
      show _ = D.tup (((rowsL nm.length).map fun e => sideT e o sc).map dSide)
      rw [List.map_map]
      rfl
    have f2 : D.tup ((List.range o.length).map fun i : Nat => D.int (iat sc i * iat (worths (zeroL nm.length)) (nat o i))) = .tup ((ruleOf nm o sc fs).F.map .int) := by
      show _ = D.tup (((List.range o.length).map fun i => iat sc i * iat (worths (zeroL nm.length)) (nat o i)).map .int)
      rw [List.map_map]
      rfl
    have f3 : D.tup ((List.range o.length).map fun i : Nat => dQ (frq (toldI o fs i) (iat sc i))) = dVec (ruleOf nm o sc fs).T := by
      show _ = D.tup (((List.range o.length).map fun i => frq (toldI o fs i) (iat sc i)).map dQ)
      rw [List.map_map]
      rfl
    rw [f1, f2]
    simp [need_len, toLine, f3]
    exact Ret.pure rfl
end CK

set_option linter.all false
set_option autoImplicit false
set_option maxRecDepth 100000
set_option maxHeartbeats 1000000
namespace CK
open PySem PySem.Spec L2 Bc
variable {w k : Nat}
/-! ### what a made rule tells -/
def lineF (o : List Nat) (sc : List Int) (x : List Nat) : List Rat := (List.range o.length).map fun i => ((iat sc i * iat (worths x) (nat o i) : Int) : Rat)
abbrev NB : Nat := 340
structure Ru where
  nm : List Str
  o : List Nat
  sc : List Int
  fs : List Int
def Ru.rl (r : Ru) : Rl := ruleOf r.nm r.o r.sc r.fs
def Ru.rf (r : Ru) : RF := (r.rl, lineF r.o r.sc)
structure RuOk (r : Ru) : Prop where
  nms : Nm r.nm
  l12 : r.nm.length = 1 ∨ r.nm.length = 2
  lay : Lay r.o r.sc
  f4 : r.fs.length = 4
  flt : ∀ f ∈ r.fs, Lt2 f 90
theorem frq_small {a b : Int} {n m : Nat} (hb : b ≠ 0) (ha : Lt2 a n) (hb2 : Lt2 b m) : Lt2 (frq a b).num n ∧ (frq a b).den < 2 ^ m := by
  unfold frq
  rw [frac_eq hb]
  have eN := Rat.num_mkRat ((if b < 0 then -1 else 1) * a) b.natAbs
  have eD := Rat.den_mkRat ((if b < 0 then -1 else 1) * a) b.natAbs
  have hb0 : ¬ b.natAbs = 0 := by omega
  rw [if_neg hb0] at eN eD
  have hsg : ((if b < 0 then (-1 : Int) else 1) * a).natAbs = a.natAbs := by split <;> omega
  constructor
  · rw [eN]
    refine Nat.lt_of_le_of_lt (natAbs_div_le _ _) ?_
    rw [hsg]
    exact ha
  · rw [eD]
    exact Nat.lt_of_le_of_lt (Nat.div_le_self _ _) hb2
theorem frq_mul {a b : Int} (hb : b ≠ 0) (c : Int) : frq a b * ((b * c : Int) : Rat) = ((a * c : Int) : Rat) := by
  unfold frq
  have : (b : Rat) ≠ 0 := fun e => hb (by exact_mod_cast e)
  rw [Rat.intCast_mul, Rat.intCast_mul]
  grind
/-- the numbers twice and a digit row -/
theorem worths_dbl {x e : List Nat} (hl : x.length = 1 ∨ x.length = 2) (he : e.length = x.length) (h1 : ∀ d ∈ e, d ≤ 1) : ∀ a, a < 4 → iat (worths (dbl x e)) a = iat (((tableL e)[a]?).getD []) 0 * iat (worths x) 0 + iat (((tableL e)[a]?).getD []) 1 * iat (worths x) 1 + iat (((tableL e)[a]?).getD []) 2 * iat (worths x) 2 + iat (((tableL e)[a]?).getD []) 3 * iat (worths x) 3 := by
  match x, e, hl, he, h1 with
  | [n], [d], _, _, h1 =>
    have hd := h1 d (by simp)
    have ho := ones_dbl n d hd
    have hp : (3 : Int) ^ (ones n + d) = (1 + 2 * (d : Int)) * 3 ^ ones n := by
      have : d = 0 ∨ d = 1 := by omega
      rcases this with rfl | rfl
      · simp
      · rw [Int.pow_succ]; simp; omega
    intro a ha
    match a, ha with
    | 0, _ => simp [iat, worths, dbl, tableL]
    | 1, _ => simp [iat, worths, dbl, tableL]; omega
    | 2, _ => simp [iat, worths, dbl, tableL, ho]; omega
    | 3, _ => simp [iat, worths, dbl, tableL, ho, hp]
  | [m, n], [d, f], _, _, h1 =>
    have hd := h1 d (by simp)
    have hf := h1 f (by simp)
    have hand : (2 * m + d) &&& (2 * n + f) = 2 * (m &&& n) + d * f := by
      have e1 : ((2 * m + d) &&& (2 * n + f)) / 2 = (m &&& n) := by
        rw [Nat.and_div_two, show (2 * m + d) / 2 = m by omega, show (2 * n + f) / 2 = n by omega]
      have e2 : ((2 * m + d) &&& (2 * n + f)) % 2 = d * f := by
        have hm : (2 * m + d) % 2 = d := by omega
        have hn : (2 * n + f) % 2 = f := by omega
        have := Nat.and_mod_two_pow (a := 2 * m + d) (b := 2 * n + f) (n := 1)
        rw [Nat.pow_one, hm, hn] at this
        rw [this]
        have : d = 0 ∨ d = 1 := by omega
        have : f = 0 ∨ f = 1 := by omega
        rcases ‹d = 0 ∨ d = 1› with rfl | rfl <;> rcases ‹f = 0 ∨ f = 1› with rfl | rfl <;> rfl
      omega
    intro a ha
    match a, ha with
    | 0, _ => simp [iat, worths, dbl, tableL]
    | 1, _ => simp [iat, worths, dbl, tableL]; omega
    | 2, _ => simp [iat, worths, dbl, tableL]; omega
    | 3, _ => simp [iat, worths, dbl, tableL, hand]; omega
/-- sums by places -/
theorem dot_four (a b : Nat → Rat) : dot ((List.range 4).map a) ((List.range 4).map b) = a 0 * b 0 + a 1 * b 1 + a 2 * b 2 + a 3 * b 3 := by
  simp [List.range_succ, dot, dotP, Rat.zero_add]
theorem dot_five (a b : Nat → Rat) : dot ((List.range 5).map a) ((List.range 5).map b) = a 0 * b 0 + a 1 * b 1 + a 2 * b 2 + a 3 * b 3 + a 4 * b 4 := by
  simp [List.range_succ, dot, dotP, Rat.zero_add]
/-- a row whose places count once, against the lines -/
theorem dot_first {o : List Nat} {sc : List Int} (h : Lay o sc) (u : Nat → Int) (x : List Nat) :
    dot ((List.range o.length).map fun j => frq (if o.idxOf (nat o j) = j then u (nat o j) else 0) (iat sc j)) (lineF o sc x) = ((u 0 * iat (worths x) 0 + u 1 * iat (worths x) 1 + u 2 * iat (worths x) 2 + u 3 * iat (worths x) 3 : Int) : Rat) := by
  have hs : ∀ j, j < o.length → ∀ a c : Int, frq a (iat sc j) * ((iat sc j * c : Int) : Rat) = ((a * c : Int) : Rat) := fun j hj a c => frq_mul (scale_ok (h.low _ (iat_mem (by rw [h.len]; exact hj)))).1 c
  have ho := h.ord
  unfold lineF
  simp only [ordersL, List.mem_cons, List.not_mem_nil, or_false] at ho
  rcases ho with rfl | rfl | rfl | rfl | rfl
  · rw [show ([0, 1, 2, 3] : List Nat).length = 4 from rfl, dot_four, hs 0 (by decide), hs 1 (by decide), hs 2 (by decide), hs 3 (by decide)]
    simp [nat, List.idxOf_cons]
  · rw [show ([3, 0, 2, 1] : List Nat).length = 4 from rfl, dot_four, hs 0 (by decide), hs 1 (by decide), hs 2 (by decide), hs 3 (by decide)]
    simp [nat, List.idxOf_cons]
    grind
  · rw [show ([1, 2, 3, 0] : List Nat).length = 4 from rfl, dot_four, hs 0 (by decide), hs 1 (by decide), hs 2 (by decide), hs 3 (by decide)]
    simp [nat, List.idxOf_cons]
    grind
  · rw [show ([2, 3, 0, 1, 0] : List Nat).length = 5 from rfl, dot_five, hs 0 (by decide), hs 1 (by decide), hs 2 (by decide), hs 3 (by decide), hs 4 (by decide)]
    simp [nat, List.idxOf_cons]
    grind
  · rw [show ([0, 3, 1, 2, 2] : List Nat).length = 5 from rfl, dot_five, hs 0 (by decide), hs 1 (by decide), hs 2 (by decide), hs 3 (by decide), hs 4 (by decide)]
    simp [nat, List.idxOf_cons]
    grind
end CK

set_option linter.all false
set_option autoImplicit false
set_option maxRecDepth 100000
set_option maxHeartbeats 1000000
namespace CK
open PySem PySem.Spec L2 Bc
variable {w k : Nat}
theorem lineF_len (o : List Nat) (sc : List Int) (x : List Nat) : (lineF o sc x).length = o.length := by
  unfold lineF; rw [List.length_map, List.length_range]
theorem worths_len {x : List Nat} (hl : x.length = 1 ∨ x.length = 2) : (worths x).length = 4 := by
  match x, hl with
  | [_], _ => rfl
  | [_, _], _ => rfl
theorem worths_four {x : List Nat} (hl : x.length = 1 ∨ x.length = 2) : ∃ a b c d, worths x = [a, b, c, d] := by
  match x, hl with
  | [_], _ => exact ⟨_, _, _, _, rfl⟩
  | [_, _], _ => exact ⟨_, _, _, _, rfl⟩
theorem worths_at {x : List Nat} {N : Nat} (hl : x.length = 1 ∨ x.length = 2) (hn : ∀ n ∈ x, n < 2 ^ N) {a : Nat} (ha : a < 4) : Lt2 (iat (worths x) a) (2 * N + 1) := by
  obtain ⟨p, q, r, s, hW, h1, hp, hq, hr, hs⟩ := worths_lt hl hn
  rw [hW]
  match a, ha with
  | 0, _ => exact hp
  | 1, _ => exact hq
  | 2, _ => exact hr
  | 3, _ => exact hs
theorem line_tiny {o : List Nat} {sc : List Int} (h : Lay o sc) {x : List Nat} {N : Nat} (hl : x.length = 1 ∨ x.length = 2) (hn : ∀ n ∈ x, n < 2 ^ N) : ∀ v ∈ lineF o sc x, v.den = 1 ∧ Lt2 v.num (2 * N + 4) := by
  intro v hv
  unfold lineF at hv
  rw [List.mem_map] at hv
  obtain ⟨i, hi, rfl⟩ := hv
  rw [List.mem_range] at hi
  obtain ⟨o5, o4, o0⟩ := orders_ok h.ord
  refine ⟨rfl, ?_⟩
  have h1 := (scale_ok (h.low _ (iat_mem (show i < sc.length by rw [h.len]; exact hi)))).2
  have h2 := worths_at hl hn (o4 _ (nat_mem hi))
  have := h1.mul h2
  show Lt2 (iat sc i * iat (worths x) (nat o i)) _
  exact this.mono (by omega)
theorem rowT_lt {e o : List Nat} (ho : o ∈ ordersL) (hl : e.length = 1 ∨ e.length = 2) (he : ∀ d ∈ e, d ≤ 1) {i j : Nat} (hi : i < o.length) (hj : j < o.length) : Lt2 (rowT e o i j) 2 := by
  obtain ⟨o5, o4, o0⟩ := orders_ok ho
  obtain ⟨t1, t2⟩ := table_ok hl he
  have hti : nat o i < (tableL e).length := by rw [t1]; exact o4 _ (nat_mem hi)
  have hrow := t2 _ (show ((tableL e)[nat o i]?).getD [] ∈ tableL e by rw [List.getElem?_eq_getElem hti]; exact List.getElem_mem hti)
  unfold rowT
  split
  · have : nat o j < (((tableL e)[nat o i]?).getD []).length := by rw [hrow.1]; exact o4 _ (nat_mem hj)
    exact hrow.2 _ (iat_mem this)
  · show (0 : Nat) < 2 ^ 2
    decide
theorem side_fine {o : List Nat} {sc : List Int} (h : Lay o sc) {e x : List Nat} (hl : x.length = 1 ∨ x.length = 2) (hel : e.length = x.length) (he : ∀ d ∈ e, d ≤ 1) (hn : ∀ n ∈ x, n < 2 ^ NB) : ∀ rs ∈ sideT e o sc, FineP (rs.zip (lineF o sc x)) := by
  intro rs hrs
  unfold sideT at hrs
  rw [List.mem_map] at hrs
  obtain ⟨i, hi, rfl⟩ := hrs
  rw [List.mem_range] at hi
  obtain ⟨o5, o4, o0⟩ := orders_ok h.ord
  refine fineP_of (a := 5) (b := 2 * NB + 4) ?_ ?_ (by decide)
  · intro p hp
    obtain ⟨h4, h5⟩ := List.of_mem_zip (a := p.1) (b := p.2) hp
    rw [List.mem_map] at h4
    obtain ⟨j, hj, h4⟩ := h4
    rw [List.mem_range] at hj
    obtain ⟨b1, b2⟩ := scale_ok (h.low _ (iat_mem (show i < sc.length by rw [h.len]; exact hi)))
    obtain ⟨b3, b4⟩ := scale_ok (h.low _ (iat_mem (show j < sc.length by rw [h.len]; exact hj)))
    have q := frq_small b3 (b2.mul (rowT_lt h.ord (by omega) he hi hj)) b4
    rw [h4] at q
    obtain ⟨v1, v2⟩ := line_tiny h hl hn p.2 h5
    exact ⟨Nat.lt_of_lt_of_le q.2 (Nat.pow_le_pow_right (by decide) (by decide)), q.1.mono (by decide), v1, v2⟩
  · rw [List.length_zip, List.length_map, List.length_range, lineF_len, Nat.min_self]
    unfold NB
    omega
theorem side_step {o : List Nat} {sc : List Int} (h : Lay o sc) {e x : List Nat} (hl : x.length = 1 ∨ x.length = 2) (hel : e.length = x.length) (he : ∀ d ∈ e, d ≤ 1) : lineF o sc (dbl x e) = (sideT e o sc).map fun rs => dot rs (lineF o sc x) := by
  unfold sideT
  rw [List.map_map]
  show (List.range o.length).map _ = (List.range o.length).map _
  refine List.map_congr_left fun i hi => ?_
  rw [List.mem_range] at hi
  obtain ⟨o5, o4, o0⟩ := orders_ok h.ord
  have hd := dot_first h (fun b => iat sc i * iat (((tableL e)[nat o i]?).getD []) b) x
  show _ = dot ((List.range o.length).map fun j => frq (iat sc i * rowT e o i j) (iat sc j)) (lineF o sc x)
  have e1 : ((List.range o.length).map fun j => frq (iat sc i * rowT e o i j) (iat sc j)) = (List.range o.length).map fun j => frq (if o.idxOf (nat o j) = j then iat sc i * iat (((tableL e)[nat o i]?).getD []) (nat o j) else 0) (iat sc j) := by
    refine List.map_congr_left fun j hj => ?_
    unfold rowT
    split
    · rfl
    · rw [Int.mul_zero]
  rw [e1, hd]
  rw [worths_dbl hl hel he (nat o i) (o4 _ (nat_mem hi))]
  congr 1
  grind
theorem told_fine {r : Ru} (h : RuOk r) {x : List Nat} (hl : x.length = r.nm.length) (hn : ∀ n ∈ x, n < 2 ^ NB) : FineP (r.rl.T.zip (lineF r.o r.sc x)) := by
  obtain ⟨o5, o4, o0⟩ := orders_ok h.lay.ord
  refine fineP_of (a := 90) (b := 2 * NB + 4) ?_ ?_ (by decide)
  · intro p hp
    obtain ⟨h4, h5⟩ := List.of_mem_zip (a := p.1) (b := p.2) hp
    have h4 : p.1 ∈ (List.range r.o.length).map fun i => frq (toldI r.o r.fs i) (iat r.sc i) := h4
    rw [List.mem_map] at h4
    obtain ⟨i, hi, h4⟩ := h4
    rw [List.mem_range] at hi
    obtain ⟨b1, b2⟩ := scale_ok (h.lay.low _ (iat_mem (show i < r.sc.length by rw [h.lay.len]; exact hi)))
    have ht : Lt2 (toldI r.o r.fs i) 90 := by
      unfold toldI
      split
      · exact h.flt _ (iat_mem (by rw [h.f4]; exact o4 _ (nat_mem hi)))
      · show (0 : Nat) < 2 ^ 90
        decide
    have q := frq_small b1 ht b2
    rw [h4] at q
    obtain ⟨v1, v2⟩ := line_tiny h.lay (by rw [hl]; exact h.l12) hn p.2 h5
    exact ⟨Nat.lt_of_lt_of_le q.2 (Nat.pow_le_pow_right (by decide) (by decide)), q.1, v1, v2⟩
  · have : r.rl.T.length = r.o.length := by
      show ((List.range r.o.length).map fun i => frq (toldI r.o r.fs i) (iat r.sc i)).length = _
      rw [List.length_map, List.length_range]
    rw [List.length_zip, this, lineF_len, Nat.min_self]
    unfold NB
    omega
theorem sideOf_ru {r : Ru} (h : RuOk r) {e : List Nat} (hl : e.length = r.nm.length) (he : ∀ d ∈ e, d ≤ 1) : sideOf r.rl e = sideT e r.o r.sc := by
  unfold sideOf
  show (((rowsL r.nm.length).map fun e => sideT e r.o r.sc)[ixOf e]?).getD [] = _
  have h12 := h.l12
  rw [List.getElem?_map, rowsL_at (by omega) hl he]
  rfl
theorem RuOk.tells {r : Ru} (h : RuOk r) : Tells r.rl (lineF r.o r.sc) NB := by
  obtain ⟨o5, o4, o0⟩ := orders_ok h.lay.ord
  have h12 := h.l12
  have hF : r.rl.F.length = r.o.length := by
    show ((List.range r.o.length).map fun i => iat r.sc i * iat (worths (zeroL r.nm.length)) (nat r.o i)).length = _
    rw [List.length_map, List.length_range]
  refine ⟨h.nms, ?_, ⟨by omega, ?_⟩, ?_, ?_, fun x hl hn => told_fine h hl hn⟩
  · show ((rowsL r.nm.length).map fun e => sideT e r.o r.sc).length = 2 ^ r.nm.length
    rw [List.length_map, rowsL_len (by omega)]
  · intro M0 hM
    have hM : M0 ∈ (rowsL r.nm.length).map fun e => sideT e r.o r.sc := hM
    rw [List.mem_map] at hM
    obtain ⟨e, _, rfl⟩ := hM
    unfold sideT
    rw [List.length_map, List.length_range]
    omega
  · show lineF r.o r.sc (zeroL r.nm.length) = ((List.range r.o.length).map fun i => iat r.sc i * iat (worths (zeroL r.nm.length)) (nat r.o i)).map fun n : Int => (n : Rat)
    rw [List.map_map]
    rfl
  · intro x e hx he hn h1
    have hx : x.length = r.nm.length := hx
    have he : e.length = r.nm.length := he
    rw [sideOf_ru h he h1]
    exact ⟨side_fine h.lay (by omega) (by omega) h1 hn, side_step h.lay (by omega) (by omega) h1⟩
/-! ### its value -/
theorem valAt_ru {r : Ru} (h : RuOk r) (ns : List Str) (x : List Nat) : valAt r.rl (lineF r.o r.sc) ns x = ((valueL r.fs (ownN r.rl ns x) : Int) : Rat) := by
  unfold valAt
  have hd := dot_first h.lay (fun b => iat r.fs b) (ownN r.rl ns x)
  show dot ((List.range r.o.length).map fun i => frq (toldI r.o r.fs i) (iat r.sc i)) _ = _
  unfold toldI
  rw [hd]
  congr 1
  have hol : (ownN r.rl ns x).length = r.nm.length := own_len r.rl ns x
  have h12 := h.l12
  obtain ⟨p, q, t, s, hW⟩ := worths_four (x := ownN r.rl ns x) (by omega)
  unfold valueL
  rw [hW]
  clear hd
  match r.fs, h.f4 with
  | [a, b, c, d], _ =>
    show a * p + b * q + c * t + d * s = a * p + (b * q + (c * t + d * s))
    omega
end CK

set_option linter.all false
set_option autoImplicit false
set_option maxRecDepth 100000
set_option maxHeartbeats 1000000
namespace CK
open PySem PySem.Spec L2 Bc
variable {w k : Nat}
/-! ### a made rule is a rule -/
theorem lt2_big {i : Int} {n : Nat} (h : Lt2 i n) (hn : n ≤ 5000) : i.natAbs < BIG := by
  rw [BIG_eq]
  exact Nat.lt_of_lt_of_le h (Nat.pow_le_pow_right (by decide) hn)
theorem plain_int' {i : Int} {n : Nat} (h : Lt2 i n) (hn : n ≤ 5000) : plain (.int i) = true := decide_eq_true (lt2_big h hn)
theorem plain_nat {i n : Nat} (h : i < 2 ^ n) (hn : n ≤ 5000) : plain (.int (i : Nat)) = true := plain_int' (lt2_nat h) hn
theorem plain_dQ {q : Rat} {n : Nat} (h : Lt2 q.num n) (h' : q.den < 2 ^ n) (hn : n ≤ 5000) : plain (dQ q) = true := by
  show plains [.int q.num, .int (q.den : Nat)] = true
  refine plains_of fun d hd => ?_
  simp at hd
  rcases hd with rfl | rfl
  · exact plain_int' h hn
  · exact plain_nat h' hn
theorem plain_dVec {rs : List Rat} {n : Nat} (h : ∀ q ∈ rs, Lt2 q.num n ∧ q.den < 2 ^ n) (hn : n ≤ 5000) : plain (dVec rs) = true := by
  show plains (rs.map dQ) = true
  refine plains_of fun d hd => ?_
  rw [List.mem_map] at hd
  obtain ⟨q, hq, rfl⟩ := hd
  exact plain_dQ (h q hq).1 (h q hq).2 hn
theorem plain_tupm {α : Type} {xs : List α} {f : α → D} (h : ∀ x ∈ xs, plain (f x) = true) : plain (.tup (xs.map f)) = true := by
  show plains (xs.map f) = true
  refine plains_of fun d hd => ?_
  rw [List.mem_map] at hd
  obtain ⟨q, hq, rfl⟩ := hd
  exact h q hq
theorem word_len {x : Str} (h : isWord (.str x) = true) : x.length ≤ 100 := by
  have h : (decide (0 < x.length) && decide (x.length ≤ 8) && x.cps.toList.all letter) = true := h
  rw [Bool.and_eq_true, Bool.and_eq_true] at h
  have := of_decide_eq_true h.1.2
  omega
theorem plain_strW {x : Str} (h : okS x = true) (h' : x.length ≤ 100) : plain (.str x) = true := by
  show (decide (x.length ≤ LINE) && okS x) = true
  rw [h, decide_eq_true (toLine (show x.length ≤ 16777216 by omega))]
  rfl
theorem Nm.plain {ns : List Str} (h : Nm ns) : plain (dN ns) = true := plain_tupm fun x hx => plain_strW (h.ok x hx) (word_len (h.word x hx))
theorem side_small {o : List Nat} {sc : List Int} (h : Lay o sc) {e : List Nat} (hl : e.length = 1 ∨ e.length = 2) (he : ∀ d ∈ e, d ≤ 1) : ∀ rs ∈ sideT e o sc, ∀ q ∈ rs, Lt2 q.num 5 ∧ q.den < 2 ^ 5 := by
  intro rs hrs q hq
  unfold sideT at hrs
  rw [List.mem_map] at hrs
  obtain ⟨i, hi, rfl⟩ := hrs
  rw [List.mem_range] at hi
  rw [List.mem_map] at hq
  obtain ⟨j, hj, rfl⟩ := hq
  rw [List.mem_range] at hj
  obtain ⟨b1, b2⟩ := scale_ok (h.low _ (iat_mem (show i < sc.length by rw [h.len]; exact hi)))
  obtain ⟨b3, b4⟩ := scale_ok (h.low _ (iat_mem (show j < sc.length by rw [h.len]; exact hj)))
  have q := frq_small b3 (b2.mul (rowT_lt h.ord hl he hi hj)) b4
  exact ⟨q.1, Nat.lt_of_lt_of_le q.2 (Nat.pow_le_pow_right (by decide) (by decide))⟩
theorem told_small {r : Ru} (h : RuOk r) : ∀ q ∈ r.rl.T, Lt2 q.num 90 ∧ q.den < 2 ^ 90 := by
  intro q hq
  have hq : q ∈ (List.range r.o.length).map fun i => frq (toldI r.o r.fs i) (iat r.sc i) := hq
  rw [List.mem_map] at hq
  obtain ⟨i, hi, rfl⟩ := hq
  rw [List.mem_range] at hi
  obtain ⟨o5, o4, o0⟩ := orders_ok h.lay.ord
  obtain ⟨b1, b2⟩ := scale_ok (h.lay.low _ (iat_mem (show i < r.sc.length by rw [h.lay.len]; exact hi)))
  have ht : Lt2 (toldI r.o r.fs i) 90 := by
    unfold toldI
    split
    · exact h.flt _ (iat_mem (by rw [h.f4]; exact o4 _ (nat_mem hi)))
    · show (0 : Nat) < 2 ^ 90
      decide
  have q := frq_small b1 ht b2
  exact ⟨q.1, Nat.lt_of_lt_of_le q.2 (Nat.pow_le_pow_right (by decide) (by decide))⟩
theorem firsts_small {r : Ru} (h : RuOk r) : ∀ i ∈ r.rl.F, Lt2 i 8 := by
  intro i hi
  have hi : i ∈ (List.range r.o.length).map fun i => iat r.sc i * iat (worths (zeroL r.nm.length)) (nat r.o i) := hi
  rw [List.mem_map] at hi
  obtain ⟨j, hj, rfl⟩ := hi
  rw [List.mem_range] at hj
  obtain ⟨o5, o4, o0⟩ := orders_ok h.lay.ord
  obtain ⟨z1, z2⟩ := zero_pts h.l12
  have h12 := h.l12
  obtain ⟨b1, b2⟩ := scale_ok (h.lay.low _ (iat_mem (show j < r.sc.length by rw [h.lay.len]; exact hj)))
  have h2 := worths_at (x := zeroL r.nm.length) (N := 2) (by omega) z2 (o4 _ (nat_mem hj))
  exact (b2.mul h2).mono (by decide)
theorem F_len (r : Ru) : r.rl.F.length = r.o.length := by
  show ((List.range r.o.length).map fun i => iat r.sc i * iat (worths (zeroL r.nm.length)) (nat r.o i)).length = _
  rw [List.length_map, List.length_range]
theorem T_len (r : Ru) : r.rl.T.length = r.o.length := by
  show ((List.range r.o.length).map fun i => frq (toldI r.o r.fs i) (iat r.sc i)).length = _
  rw [List.length_map, List.length_range]
theorem S_mem {r : Ru} (h : RuOk r) {M0 : List (List Rat)} (hM : M0 ∈ r.rl.S) : ∃ e, M0 = sideT e r.o r.sc ∧ e.length = r.nm.length ∧ ∀ d ∈ e, d ≤ 1 := by
  have hM : M0 ∈ (rowsL r.nm.length).map fun e => sideT e r.o r.sc := hM
  rw [List.mem_map] at hM
  obtain ⟨e, he, rfl⟩ := hM
  have h12 := h.l12
  obtain ⟨h1, h2⟩ := rowsL_ok (show r.nm.length ≤ 3 by omega) e he
  exact ⟨e, rfl, h1, h2⟩
theorem RuOk.plain {r : Ru} (h : RuOk r) : plain (dR r.rl) = true := by
  show plains [dN r.rl.nm, .tup (r.rl.S.map dSide), .tup (r.rl.F.map .int), dVec r.rl.T] = true
  refine plains_of fun d hd => ?_
  simp only [List.mem_cons, List.not_mem_nil, or_false] at hd
  rcases hd with rfl | rfl | rfl | rfl
  · exact h.nms.plain
  · refine plain_tupm fun M0 hM => ?_
    obtain ⟨e, rfl, h1, h2⟩ := S_mem h hM
    refine plain_tupm fun rs hrs => plain_dVec (n := 5) (side_small h.lay (by rw [h1]; exact h.l12) h2 rs hrs) (by decide)
  · exact plain_tupm fun i hi => plain_int' (firsts_small h i hi) (by decide)
  · exact plain_dVec (told_small h) (by decide)
theorem RuOk.shp {r : Ru} (h : RuOk r) : Shp r.rl := by
  have h12 := h.l12
  obtain ⟨o5, o4, o0⟩ := orders_ok h.lay.ord
  refine ⟨h.nms, ?_, by rw [F_len]; omega, ?_, by rw [T_len, F_len]⟩
  · show ((rowsL r.nm.length).map fun e => sideT e r.o r.sc).length = 2 ^ r.nm.length
    rw [List.length_map, rowsL_len (by omega)]
  · intro M0 hM
    obtain ⟨e, rfl, h1, h2⟩ := S_mem h hM
    rw [F_len]
    unfold sideT
    refine ⟨by rw [List.length_map, List.length_range], fun rs hrs => ?_⟩
    rw [List.mem_map] at hrs
    obtain ⟨i, _, rfl⟩ := hrs
    rw [List.length_map, List.length_range]
theorem dbl_zero {n : Nat} (h : n = 1 ∨ n = 2) : dbl (zeroL n) (zeroL n) = zeroL n := by
  rcases h with rfl | rfl <;> rfl
theorem RuOk.is {r : Ru} (h : RuOk r) (hw : BIG ≤ w) : RuleIs w (dR r.rl) true := by
  intro k
  obtain ⟨z1, z2⟩ := zero_pts h.l12
  have h12 := h.l12
  have hz : ∀ d ∈ zeroL r.nm.length, d ≤ 1 := by
    rcases h12 with e | e <;> rw [e] <;> decide
  have h0 : r.rl.S[0]? = some (sideT (zeroL r.nm.length) r.o r.sc) := by
    show ((rowsL r.nm.length).map fun e => sideT e r.o r.sc)[0]? = _
    rcases h12 with e | e <;> rw [e] <;> rfl
  have hf : firstsQ r.rl = lineF r.o r.sc (zeroL r.nm.length) := h.tells.zero.symm
  have hstep := side_step h.lay (e := zeroL r.nm.length) (x := zeroL r.nm.length) (by omega) rfl hz
  rw [dbl_zero h12] at hstep
  have := s_rule_yes (w := w) (k := k) h.shp h.plain hw h0 (by
    rw [hf]
    exact side_fine h.lay (by omega) rfl hz (lt_mono z2 (by decide)))
  rw [this, hf, ← hstep, decide_eq_true rfl]
/-! ### rules together -/
def ownL (r : Ru) (ns : List Str) (x : List Nat) : List Nat := ownN r.rl ns x
theorem allAt_ru (rs : List Ru) (ns : List Str) (x : List Nat) : allAt (rs.map Ru.rf) ns x = (rs.map fun r => lineF r.o r.sc (ownL r ns x)).flatten := by
  unfold allAt
  rw [List.map_map]
  rfl
theorem allAt_len (rs : List Ru) (ns : List Str) (x : List Nat) : (allAt (rs.map Ru.rf) ns x).length = (rs.map fun r => r.o.length).sum := by
  rw [allAt_ru, List.length_flatten, List.map_map]
  congr 1
  refine List.map_congr_left fun r hr => ?_
  exact lineF_len _ _ _
theorem sum_le {α : Type} {f : α → Nat} {c : Nat} : ∀ {xs : List α}, (∀ x ∈ xs, f x ≤ c) → (xs.map f).sum ≤ c * xs.length
  | [], _ => by simp
  | x :: xs, h => by
    rw [List.map_cons, List.sum_cons, List.length_cons, Nat.mul_add]
    have := sum_le (xs := xs) fun y hy => h y (List.mem_cons_of_mem _ hy)
    have := h x (List.mem_cons_self ..)
    omega
structure RusOk (rs : List Ru) (ns : List Str) : Prop where
  few : rs.length ≤ 6
  each : ∀ r ∈ rs, RuOk r
  nms : Nm ns
  sub : ∀ r ∈ rs, ∀ x ∈ r.nm, x ∈ ns
def lenOf (rs : List Ru) : Nat := (rs.map fun r => r.o.length).sum
theorem RusOk.cx {rs : List Ru} {ns : List Str} (h : RusOk rs ns) (e : Option (List Nat)) : CxOk ⟨ns, rs.map Ru.rf, e⟩ NB (lenOf rs) := by
  have hlen : lenOf rs ≤ 5 * rs.length := sum_le fun r hr => (orders_ok (h.each r hr).lay.ord).1
  have hf := h.few
  refine ⟨⟨h.nms, ?_, fun x => ?_, by decide⟩, by decide, fun x _ _ => allAt_len rs ns x, ?_, ?_⟩
  · intro r hr
    have hr : r ∈ rs.map Ru.rf := hr
    rw [List.mem_map] at hr
    obtain ⟨u, hu, rfl⟩ := hr
    exact ⟨(h.each u hu).tells, h.sub u hu⟩
  · show (allAt (rs.map Ru.rf) ns x).length ≤ 1000
    rw [allAt_len]
    have : (rs.map fun r => r.o.length).sum = lenOf rs := rfl
    omega
  · show ((rs.map Ru.rf).map fun r => r.1.F.length).sum ≤ 1000
    rw [List.map_map]
    have : (rs.map ((fun r : RF => r.1.F.length) ∘ Ru.rf)).sum = lenOf rs := by
      unfold lenOf
      congr 1
      exact List.map_congr_left fun r hr => F_len r
    omega
  · intro x hx hn v hv
    have hv : v ∈ allAt (rs.map Ru.rf) ns x := hv
    rw [allAt_ru, List.mem_flatten] at hv
    obtain ⟨l, hl, hv⟩ := hv
    rw [List.mem_map] at hl
    obtain ⟨r, hr, rfl⟩ := hl
    have hr1 := h.each r hr
    have hol : (ownL r ns x).length = r.nm.length := own_len r.rl ns x
    have hx : x.length = ns.length := hx
    have key := line_tiny hr1.lay (x := ownL r ns x) (N := 102) (by rw [hol]; exact hr1.l12) (own_lt (h.sub r hr) hx hn) v hv
    exact ⟨key.1, key.2.mono (by decide)⟩
theorem value_lt {fs : List Int} {x : List Nat} {N m : Nat} (hf : fs.length = 4) (hf2 : ∀ f ∈ fs, Lt2 f m) (hl : x.length = 1 ∨ x.length = 2) (hn : ∀ n ∈ x, n < 2 ^ N) : Lt2 (valueL fs x) (m + (2 * N + 1) + 3) := by
  obtain ⟨a, b, c, d, hW, h1, ha, hb, hc, hd⟩ := worths_lt hl hn
  unfold valueL
  rw [hW]
  match fs, hf, hf2 with
  | [r, s, t, u], _, hf2 =>
    have m1 := (hf2 r (by simp)).mul ha
    have m2 := (hf2 s (by simp)).mul hb
    have m3 := (hf2 t (by simp)).mul hc
    have m4 := (hf2 u (by simp)).mul hd
    have m5 := m3.add m4
    have m6 := (m2.mono (m := m + (2 * N + 1) + 1) (by omega)).add m5
    exact (m1.mono (m := m + (2 * N + 1) + 1 + 1) (by omega)).add m6
theorem RusOk.many {rs : List Ru} {ns : List Str} (h : RusOk rs ns) (hn : sortS (joinN (rs.map fun r => r.nm)) = ns) (hw : BIG ≤ w) : Many w (rs.map Ru.rf) ns NB (lenOf rs) := by
  have hf := h.few
  refine ⟨⟨by rw [List.length_map, List.length_map]; omega, ?_, ?_⟩, ?_, h.nms.len, h.cx, ?_⟩
  · intro r hr
    rw [List.map_map, List.mem_map] at hr
    obtain ⟨u, hu, rfl⟩ := hr
    exact (h.each u hu).is hw
  · intro r hr
    rw [List.map_map, List.mem_map] at hr
    obtain ⟨u, hu, rfl⟩ := hr
    exact (h.each u hu).nms
  · rw [List.map_map]
    exact hn
  · intro x hx hn r hr
    rw [List.mem_map] at hr
    obtain ⟨u, hu, rfl⟩ := hr
    have hu1 := h.each u hu
    have e : valAt u.rf.1 u.rf.2 ns x = ((valueL u.fs (ownN u.rl ns x) : Int) : Rat) := valAt_ru hu1 ns x
    rw [e]
    have hol : (ownN u.rl ns x).length = u.nm.length := own_len u.rl ns x
    refine ⟨rfl, ?_⟩
    exact (show Lt2 (valueL u.fs (ownN u.rl ns x)) 300 from (value_lt hu1.f4 hu1.flt (by rw [hol]; exact hu1.l12) (own_lt (h.sub u hu) hx hn)).mono (by decide))
end CK

set_option linter.all false
set_option autoImplicit false
set_option maxRecDepth 100000
set_option maxHeartbeats 1000000
namespace CK
open PySem PySem.Spec L2 Bc
variable {w k : Nat}
/-! ### spans of made rules: no rule in sight -/
def worthQ (a : Nat) (p : List Nat) : Rat := ((iat (worths p) a : Int) : Rat)
def rightQ (ps : List (List Nat)) (t : List Nat) (rs : List Rat) : Bool := (List.range 4).all fun a => decide (dot rs (ps.map (worthQ a)) = worthQ a t)
def shareC (e : Option (List Nat)) (ps : List (List Nat)) (t : List Nat) (d : D) : Bool := if isNone d then (match e with
  | none => false
  | some e => !aheadB t e) else isRw ps.length d && (match asVec d with
  | some rs => ((rs.zip ps).all fun p => decide (p.1 = 0) || !aheadB t p.2) && rightQ ps t rs
  | none => false)
def rowC (n : Nat) (e : Option (List Nat)) (ps : List (List Nat)) (x : List Nat) : D → Bool
  | .tup ss => decide (ss.length = 2 ^ n) && (ss.zip (rowsL n)).all fun p => shareC e ps (dbl x p.2) p.1
  | _ => false
def endsC (e : Option (List Nat)) (ps : List (List Nat)) : Bool := match e with
  | none => true
  | some e => ps.all fun p => aheadB p e
def restC (n : Nat) (e : Option (List Nat)) (ps : List (List Nat)) (R : D) : Bool := (endsC e ps && (decide (ps.head? = some (zeroL n)) || decide (e = some (zeroL n)))) && (match R with
  | .tup rr => decide (rr.length = ps.length) && (rr.zip ps).all fun p => rowC n e ps p.2 p.1
  | _ => false)
def spanC (n : Nat) (e : Option (List Nat)) : D → Bool
  | .tup [P, R] => isPts n P && (match asPts P with
    | some ps => restC n e ps R
    | none => false)
  | _ => false
/-! ### the same names everywhere -/
structure SameN (rs : List Ru) (ns : List Str) : Prop where
  ok : RusOk rs ns
  some : rs ≠ []
  nm : ∀ r ∈ rs, r.nm = ns
theorem own_self {ns : List Str} (h : Nm ns) {x : List Nat} (hx : x.length = ns.length) : (ns.map fun y => (x[ns.idxOf y]?).getD 0) = x := by
  have nd : ns.Nodup := by
    have h1 := h.asc
    have h3 := h.len
    match ns, h3, h1 with
    | [], _, _ => exact List.nodup_nil
    | [a], _, _ => simp
    | [a, b], _, h1 =>
      rw [ascB_cons, Bool.and_eq_true] at h1
      simp [ltS_ne h1.1]
    | [a, b, c], _, h1 =>
      rw [ascB_cons, ascB_cons, Bool.and_eq_true, Bool.and_eq_true] at h1
      have h2 := ltS_ne h1.1
      have h3 := ltS_ne h1.2.1
      have h4 : ltS a c = true := decide_eq_true (List.lt_trans (of_decide_eq_true h1.1) (of_decide_eq_true h1.2.1))
      simp [h2, h3, ltS_ne h4]
  apply List.ext_getElem
  · rw [List.length_map, hx]
  · intro i h1 h2
    rw [List.getElem_map]
    rw [List.length_map] at h1
    have e : ns.idxOf ns[i] = i := List.Nodup.idxOf_getElem nd i h1
    rw [e, List.getElem?_eq_getElem h2]
    rfl
theorem ownL_self {rs : List Ru} {ns : List Str} (h : SameN rs ns) {r : Ru} (hr : r ∈ rs) {x : List Nat} (hx : x.length = ns.length) : ownL r ns x = x := by
  show (r.nm.map fun y => (x[ns.idxOf y]?).getD 0) = x
  rw [h.nm r hr]
  exact own_self h.ok.nms hx
/-- the lines' factors -/
def coefs (rs : List Ru) : List (Int × Nat) := (rs.map fun r => (List.range r.o.length).map fun i => (iat r.sc i, nat r.o i)).flatten
def lineQ (x : List Nat) (q : Int × Nat) : Rat := ((q.1 * iat (worths x) q.2 : Int) : Rat)
theorem allAt_same {rs : List Ru} {ns : List Str} (h : SameN rs ns) {x : List Nat} (hx : x.length = ns.length) : allAt (rs.map Ru.rf) ns x = (coefs rs).map (lineQ x) := by
  rw [allAt_ru]
  unfold coefs
  rw [List.map_flatten, List.map_map]
  congr 1
  refine List.map_congr_left fun r hr => ?_
  rw [ownL_self h hr hx]
  show lineF r.o r.sc x = ((List.range r.o.length).map fun i => (iat r.sc i, nat r.o i)).map (lineQ x)
  rw [List.map_map]
  rfl
theorem coefs_ok {rs : List Ru} {ns : List Str} (h : SameN rs ns) : (∀ q ∈ coefs rs, q.2 < 4 ∧ q.1 ≠ 0) ∧ ∀ a, a < 4 → ∃ q ∈ coefs rs, q.2 = a := by
  constructor
  · intro q hq
    unfold coefs at hq
    rw [List.mem_flatten] at hq
    obtain ⟨l, hl, hq⟩ := hq
    rw [List.mem_map] at hl
    obtain ⟨r, hr, rfl⟩ := hl
    rw [List.mem_map] at hq
    obtain ⟨i, hi, rfl⟩ := hq
    rw [List.mem_range] at hi
    have hr1 := (h.ok.each r hr).lay
    obtain ⟨o5, o4, o0⟩ := orders_ok hr1.ord
    exact ⟨o4 _ (nat_mem hi), (scale_ok (hr1.low _ (iat_mem (show i < r.sc.length by rw [hr1.len]; exact hi)))).1⟩
  · intro a ha
    match rs, h.some, h with
    | r :: rs, _, h =>
      have hr1 := (h.ok.each r (List.mem_cons_self ..)).lay
      have key : ∃ i, i < r.o.length ∧ nat r.o i = a := by
        have ho := hr1.ord
        have all : ∀ o ∈ ordersL, ∀ a, a < 4 → ∃ i, i < o.length ∧ nat o i = a := by
          have : ∀ o ∈ ordersL, ∀ a ∈ List.range 4, ∃ i ∈ List.range o.length, nat o i = a := by decide
          intro o ho a ha
          obtain ⟨i, hi, e⟩ := this o ho a (List.mem_range.2 ha)
          exact ⟨i, List.mem_range.1 hi, e⟩
        exact all _ ho a ha
      obtain ⟨i, hi, e⟩ := key
      refine ⟨(iat r.sc i, nat r.o i), ?_, e⟩
      unfold coefs
      rw [List.map_cons, List.flatten_cons, List.mem_append]
      exact .inl (List.mem_map.2 ⟨i, List.mem_range.2 hi, rfl⟩)
theorem dotP_scale (s : Rat) : ∀ (ps : List (Rat × Rat)) (q : Rat), (ps.map fun p => (p.1, s * p.2)).foldl (fun q p => q + p.1 * p.2) (s * q) = s * ps.foldl (fun q p => q + p.1 * p.2) q
  | [], q => rfl
  | p :: ps, q => by
    rw [List.map_cons, List.foldl_cons, List.foldl_cons, ← dotP_scale s ps]
    congr 1
    grind
theorem dot_scale (s : Rat) (rs vs : List Rat) : dot rs (vs.map fun v => s * v) = s * dot rs vs := by
  unfold dot dotP
  have := dotP_scale s (rs.zip vs) 0
  rw [Rat.mul_zero] at this
  rw [← this]
  congr 1
  rw [List.zip_map_right]
  rfl
theorem int_ne_zero {s : Int} (h : s ≠ 0) : (s : Rat) ≠ 0 := fun e => h (by exact_mod_cast e)
theorem dot_line {q : Int × Nat} (rs : List Rat) (ps : List (List Nat)) (t : List Nat) (h : q.1 ≠ 0) : (dot rs (ps.map fun p => lineQ p q) = lineQ t q) ↔ (dot rs (ps.map (worthQ q.2)) = worthQ q.2 t) := by
  have e1 : (ps.map fun p => lineQ p q) = (ps.map (worthQ q.2)).map fun v => (q.1 : Rat) * v := by
    rw [List.map_map]
    refine List.map_congr_left fun p hp => ?_
    show ((q.1 * iat (worths p) q.2 : Int) : Rat) = (q.1 : Rat) * ((iat (worths p) q.2 : Int) : Rat)
    rw [Rat.intCast_mul]
  have e2 : lineQ t q = (q.1 : Rat) * worthQ q.2 t := by
    show ((q.1 * iat (worths t) q.2 : Int) : Rat) = (q.1 : Rat) * ((iat (worths t) q.2 : Int) : Rat)
    rw [Rat.intCast_mul]
  rw [e1, e2, dot_scale]
  have := int_ne_zero h
  constructor
  · intro h; grind
  · intro h; rw [h]
theorem made_same {rs : List Ru} {ns : List Str} (h : SameN rs ns) {e : Option (List Nat)} {ps : List (List Nat)} {t : List Nat} (hps : ∀ p ∈ ps, p.length = ns.length) (ht : t.length = ns.length) (us : List Rat) :
    madeQ ps (colsOf ⟨ns, rs.map Ru.rf, e⟩ ps) t (allAt (rs.map Ru.rf) ns t) us = (((us.zip ps).all fun p => decide (p.1 = 0) || !aheadB t p.2) && rightQ ps t us) := by
  unfold madeQ
  congr 1
  obtain ⟨c1, c2⟩ := coefs_ok h
  have hc : colsOf ⟨ns, rs.map Ru.rf, e⟩ ps = ps.map fun p => (coefs rs).map (lineQ p) := by
    unfold colsOf
    exact List.map_congr_left fun p hp => allAt_same h (hps p hp)
  rw [hc, allAt_same h ht, List.length_map]
  have hi : ∀ i, (hi : i < (coefs rs).length) → (dot us ((ps.map fun p => (coefs rs).map (lineQ p)).map fun c => (c[i]?).getD 0) = (((coefs rs).map (lineQ t))[i]?).getD 0 ↔ dot us (ps.map (worthQ (coefs rs)[i].2)) = worthQ (coefs rs)[i].2 t) := by
    intro i hi
    rw [← dot_line us ps t (c1 _ (List.getElem_mem hi)).2, List.map_map, List.getElem?_map, List.getElem?_eq_getElem hi]
    have : ((fun c : List Rat => (c[i]?).getD 0) ∘ fun p => (coefs rs).map (lineQ p)) = fun p => lineQ p (coefs rs)[i] := by
      funext p
      show (((coefs rs).map (lineQ p))[i]?).getD 0 = _
      rw [List.getElem?_map, List.getElem?_eq_getElem hi]
      rfl
    rw [this]
    rfl
  unfold rightQ
  rw [Bool.eq_iff_iff, List.all_eq_true, List.all_eq_true]
  constructor
  · intro hall a ha
    rw [List.mem_range] at ha
    obtain ⟨q, hq, rfl⟩ := c2 a ha
    obtain ⟨i, hl, e⟩ := List.getElem_of_mem hq
    have := of_decide_eq_true (hall i (List.mem_range.2 hl))
    rw [hi i hl, e] at this
    exact decide_eq_true this
  · intro hall i hl
    rw [List.mem_range] at hl
    refine decide_eq_true ((hi i hl).2 ?_)
    exact of_decide_eq_true (hall _ (List.mem_range.2 (c1 _ (List.getElem_mem hl)).1))
theorem first_ne {rs : List Ru} {ns : List Str} (h : SameN rs ns) : (((rs.map Ru.rf).map fun r => r.1).all fun r => r.F.all fun i => decide (i = 0)) = false := by
  match rs, h.some, h with
  | r :: rs, _, h =>
    rw [List.map_cons, List.map_cons, List.all_cons]
    have hr1 := h.ok.each r (List.mem_cons_self ..)
    have key : (r.rl.F.all fun i => decide (i = 0)) = false := by
      rw [List.all_eq_false]
      have all : ∀ o ∈ ordersL, ∃ i, i < o.length ∧ nat o i = 0 := by
        have : ∀ o ∈ ordersL, ∃ i ∈ List.range o.length, nat o i = 0 := by decide
        intro o ho
        obtain ⟨i, hi, e⟩ := this o ho
        exact ⟨i, List.mem_range.1 hi, e⟩
      obtain ⟨i, hi, e⟩ := all _ hr1.lay.ord
      refine ⟨iat r.sc i * iat (worths (zeroL r.nm.length)) (nat r.o i), List.mem_map.2 ⟨i, List.mem_range.2 hi, rfl⟩, ?_⟩
      rw [e]
      have hw : iat (worths (zeroL r.nm.length)) 0 = 1 := by
        rcases hr1.l12 with e | e <;> rw [e] <;> rfl
      rw [hw, Int.mul_one]
      have := (scale_ok (hr1.lay.low _ (iat_mem (show i < r.sc.length by rw [hr1.lay.len]; exact hi)))).1
      simpa using this
    show (r.rl.F.all _ && _) = false
    rw [key]
    rfl
theorem span_same {rs : List Ru} {ns : List Str} (h : SameN rs ns) (e : Option (List Nat)) (d : D) : spanB ⟨ns, rs.map Ru.rf, e⟩ d = spanC ns.length e d := by
  cases d with
  | tup xs =>
    match xs with
    | [P, R] =>
      show (isPts ns.length P && _) = (isPts ns.length P && _)
      cases hP : isPts ns.length P with
      | false => rfl
      | true =>
        obtain ⟨ps, rfl, hl, hps, hasc⟩ := isPts_get hP
        rw [asPts_map]
        show restB ⟨ns, rs.map Ru.rf, e⟩ ps R = restC ns.length e ps R
        unfold restB restC
        congr 1
        · congr 1
          unfold beginB
          rw [first_ne h, Bool.or_false]
          rfl
        · cases R with
          | tup rr =>
            show (decide (rr.length = ps.length) && _) = (decide (rr.length = ps.length) && _)
            congr 1
            have hz : ∀ p ∈ rr.zip ps, rowB ⟨ns, rs.map Ru.rf, e⟩ ps p.2 p.1 = rowC ns.length e ps p.2 p.1 := by
              intro p hp
              obtain ⟨r, x⟩ := p
              obtain ⟨m1, m2⟩ := List.of_mem_zip hp
              have hx := hps x m2
              show rowB _ ps x r = rowC _ e ps x r
              cases r with
              | tup ss =>
                show (decide (ss.length = 2 ^ ns.length) && _) = (decide (ss.length = 2 ^ ns.length) && _)
                congr 1
                have hz : ∀ p ∈ ss.zip (rowsL ns.length), shareB ⟨ns, rs.map Ru.rf, e⟩ ps (dbl x p.2) p.1 = shareC e ps (dbl x p.2) p.1 := by
                  intro p hp
                  obtain ⟨s, st⟩ := p
                  obtain ⟨m3, m4⟩ := List.of_mem_zip hp
                  obtain ⟨s1, s2⟩ := rowsL_ok h.ok.nms.len st m4
                  have ht : (dbl x st).length = ns.length := by rw [dbl_len (by omega)]; exact hx
                  show shareB ⟨ns, rs.map Ru.rf, e⟩ ps (dbl x st) s = shareC e ps (dbl x st) s
                  unfold shareB shareC
                  congr 1
                  unfold madeB
                  congr 1
                  cases asVec s with
                  | none => rfl
                  | some us => exact made_same h hps ht us
                rw [Bool.eq_iff_iff, List.all_eq_true, List.all_eq_true]
                exact ⟨fun hh p hp => by rw [← hz p hp]; exact hh p hp, fun hh p hp => by rw [hz p hp]; exact hh p hp⟩
              | _ => rfl
            rw [Bool.eq_iff_iff, List.all_eq_true, List.all_eq_true]
            exact ⟨fun hh p hp => by rw [← hz p hp]; exact hh p hp, fun hh p hp => by rw [hz p hp]; exact hh p hp⟩
          | _ => rfl
    | [] => rfl
    | [_] => rfl
    | _ :: _ :: _ :: _ => rfl
  | _ => rfl
end CK

set_option linter.all false
set_option autoImplicit false
set_option maxRecDepth 100000
set_option maxHeartbeats 1000000
namespace CK
open PySem PySem.Spec L2 Bc
variable {w k : Nat}
theorem cut_to2 (xs : List D) (n : Nat) : cutD xs (some ((n : Int) + 1)) none = xs.drop (n + 1) := by
  have := cut_from xs (n + 1)
  rw [show (((n + 1 : Nat)) : Int) = (n : Int) + 1 by omega] at this
  exact this
theorem value_at (fs : List Int) {x : List Nat} (hf : fs.length = 4) (hl : x.length = 1 ∨ x.length = 2) : valueL fs x = iat fs 0 * iat (worths x) 0 + iat fs 1 * iat (worths x) 1 + iat fs 2 * iat (worths x) 2 + iat fs 3 * iat (worths x) 3 := by
  obtain ⟨a, b, c, d, hW⟩ := worths_four hl
  unfold valueL
  rw [hW]
  match fs, hf with
  | [p, q, r, s], _ =>
    show p * a + (q * b + (r * c + s * d)) = p * a + q * b + r * c + s * d
    omega
/-- at the four points: equal only if the same -/
theorem value_zero {n : Nat} (h : n = 1 ∨ n = 2) {fs : List Int} (hf : fs.length = 4) : (∀ p ∈ pointsL n, valueL fs p = 0) ↔ fs = [0, 0, 0, 0] := by
  match fs, hf with
  | [a, b, c, d], _ =>
    rcases h with rfl | rfl
    · have e0 : worths [0] = [1, 0, 0, 1] := by decide
      have e1 : worths [1] = [1, 1, 1, 3] := by decide
      have e2 : worths [2] = [1, 2, 1, 3] := by decide
      have e3 : worths [3] = [1, 3, 2, 9] := by decide
      show (∀ p ∈ [[0], [1], [2], [3]], _) ↔ _
      simp [valueL, e0, e1, e2, e3]
      omega
    · have e0 : worths [0, 0] = [1, 0, 0, 0] := by decide
      have e1 : worths [0, 1] = [1, 0, 1, 0] := by decide
      have e2 : worths [1, 0] = [1, 1, 0, 0] := by decide
      have e3 : worths [1, 1] = [1, 1, 1, 1] := by decide
      show (∀ p ∈ [[0, 0], [0, 1], [1, 0], [1, 1]], _) ↔ _
      simp [valueL, e0, e1, e2, e3]
      omega
structure NsOk (ns : List Str) : Prop where
  nm : Nm ns
  l12 : ns.length = 1 ∨ ns.length = 2
  srt : sortS ns = ns
theorem ltS_total {x y : Str} (h : x ≠ y) (h' : ltS x y = false) : ltS y x = true := by
  unfold ltS at *
  have h' := of_decide_eq_false h'
  have h1 : ¬ x.cps.toList = y.cps.toList := fun e => h (by
    obtain ⟨⟨a⟩⟩ := x
    obtain ⟨⟨b⟩⟩ := y
    have : a = b := e
    rw [this])
  apply decide_eq_true
  rcases List.le_iff_lt_or_eq.1 (List.not_lt.1 h') with h2 | h2
  · exact h2
  · exact absurd h2.symm h1
theorem ltS_irr {x y : Str} (h : ltS x y = true) : ltS y x = false := decide_eq_false (List.lt_asymm (of_decide_eq_true h))
theorem sort_two {x y : Str} : bSorted [.lst true [.str x, .str y]] = M.pure (.lst true (if ltS y x then [.str y, .str x] else [.str x, .str y])) := by
  have : sortD [.str x, .str y] = some (if ltS y x then [.str y, .str x] else [.str x, .str y]) := by
    have e : ltCps y.cps.toList x.cps.toList = ltS y x := PyProof.Rows.ltCps_eq _ _
    simp only [sortD, asInts, asStrs, Option.map_some, sortS, insS, e]
    cases ltS y x <;> rfl
  have e : ∀ xs, bSorted [.lst true xs] = (ofOpt (sortD xs)).bind fun ys => M.pure (.lst true ys) := fun xs => rfl
  rw [e, this]
  rfl
theorem ns_one {x : Str} (h : Wd x) : NsOk [x] := ⟨⟨by simpa using h.ok, by simp, by simpa using h.word, ascB_one _ _⟩, .inl rfl, rfl⟩
theorem ns_two {x y : Str} (h : Wd x) (h' : Wd y) (hl : ltS x y = true) : NsOk [x, y] := by
  refine ⟨⟨?_, by simp, ?_, ?_⟩, .inr rfl, ?_⟩
  · intro z hz; simp at hz; rcases hz with rfl | rfl
    · exact h.ok
    · exact h'.ok
  · intro z hz; simp at hz; rcases hz with rfl | rfl
    · exact h.word
    · exact h'.word
  · rw [ascB_cons, hl, ascB_one]; rfl
  · have e : ltCps y.cps.toList x.cps.toList = ltS y x := PyProof.Rows.ltCps_eq _ _
    simp only [sortS, insS, e, ltS_irr hl]
    rfl
theorem join_self (ns : List Str) : ∀ nss : List (List Str), (∀ l ∈ nss, l = ns) → nss.foldl (fun f ns => f ++ ns.filter fun x => !decide (x ∈ f)) ns = ns
  | [], _ => rfl
  | l :: nss, h => by
    have e := h l (List.mem_cons_self ..)
    subst e
    rw [List.foldl_cons]
    have : l.filter (fun x => !decide (x ∈ l)) = [] := by
      rw [List.filter_eq_nil_iff]
      intro x hx
      simp [hx]
    rw [this, List.append_nil]
    exact join_self l nss fun m hm => h m (List.mem_cons_of_mem _ hm)
theorem join_same {ns : List Str} {nss : List (List Str)} (h0 : nss ≠ []) (h : ∀ l ∈ nss, l = ns) : joinN nss = ns := by
  match nss, h0, h with
  | l :: nss, _, h =>
    unfold joinN
    rw [List.foldl_cons]
    have e := h l (List.mem_cons_self ..)
    subst e
    have : l.filter (fun x => !decide (x ∈ ([] : List Str))) = l := by
      rw [List.filter_eq_self]
      intro x hx
      simp
    rw [this, List.nil_append]
    exact join_self l nss fun m hm => h m (List.mem_cons_of_mem _ hm)
theorem SameN.many {rs : List Ru} {ns : List Str} (h : SameN rs ns) (hn : NsOk ns) (hw : BIG ≤ w) : Many w (rs.map Ru.rf) ns NB (lenOf rs) := by
  refine h.ok.many ?_ hw
  rw [join_same (ns := ns) (by simpa using h.some) (by
    intro l hl
    rw [List.mem_map] at hl
    obtain ⟨r, hr, rfl⟩ := hl
    exact h.nm r hr)]
  exact hn.srt
theorem pts_none (n : Nat) : ptsE n none = pointsL n := List.filter_eq_self.2 fun _ _ => rfl
theorem ptsOf_span (n : Nat) (e : Option (List Nat)) : ptsOf (spanD n e) = ptsE n e := ptsOf_map _ _
theorem map_row_inj {xs ys : List (List Nat)} (h : xs.map dRow = ys.map dRow) : xs = ys := by
  have := congrArg asRows h
  rw [asRows_map, asRows_map] at this
  exact Option.some.inj this
theorem cert_span {n : Nat} (h : n = 1 ∨ n = 2) : Cert (spanD n none) := by
  refine ⟨?_, ?_, ?_⟩
  · rcases h with rfl | rfl <;> decide +kernel
  · rcases h with rfl | rfl <;> decide +kernel
  · intro ps R e
    have e := D.tup.inj e
    have e1 := D.tup.inj (List.cons.inj e).1
    have := map_row_inj e1
    rw [← this]
    exact Nat.le_trans (pts_len n none) (by decide)
theorem span_right {n : Nat} (h : n = 1 ∨ n = 2) : spanC n none (spanD n none) = true := by
  rcases h with rfl | rfl <;> decide +kernel
theorem ruleNo {d : D} (h : plain d = true) (hs : shapeB d = false) (hw : BIG ≤ w) : RuleIs w d false := fun k => s_rule_no h hw hs
theorem _root_.List.mem_of_mem_dropLast' {α : Type} {xs : List α} {x : α} (h : x ∈ xs.dropLast) : x ∈ xs := by
  rw [List.dropLast_eq_take] at h
  exact List.mem_of_mem_take h
theorem ints_inj {xs ys : List Int} (h : D.tup (xs.map .int) = D.tup (ys.map .int)) : xs = ys := by
  have e := D.tup.inj h
  have : asInts (xs.map D.int) = asInts (ys.map D.int) := by rw [e]
  rw [asInts_map (fun i => i), asInts_map (fun i => i)] at this
  simpa using this
theorem SameN.sub {rs us : List Ru} {ns : List Str} (h : SameN rs ns) (hu : ∀ u ∈ us, u ∈ rs) (h0 : us ≠ []) (h6 : us.length ≤ 6) : SameN us ns :=
  ⟨⟨h6, fun r hr => h.ok.each r (hu r hr), h.ok.nms, fun r hr => h.ok.sub r (hu r hr)⟩, h0, fun r hr => h.nm r (hu r hr)⟩
theorem word_names {d : D} {xs : List D} (hd : d ∈ xs) (h : isWord d = false) : isNames (.tup xs) = false := by
  show (decide (xs.length ≤ 3) && (xs.all isWord && _)) = false
  have : xs.all isWord = false := by
    rw [List.all_eq_false]
    exact ⟨d, hd, by rw [h]; simp⟩
  rw [this]
  simp
theorem shape_names {xs : List D} (h : ∀ x ∈ xs, isNames x = false) : shapeB (.tup xs) = false := by
  match xs, h with
  | [n, s, f, t], h =>
    refine shape_4 ?_
    rintro ⟨ss, fs, rfl, rfl, e⟩
    unfold shapeT at e
    rw [h n (by simp)] at e
    cases e
  | [], _ => simp [shapeB]
  | [_], _ => simp [shapeB]
  | [_, _], _ => simp [shapeB]
  | [_, _, _], _ => simp [shapeB]
  | _ :: _ :: _ :: _ :: _ :: _, _ => simp [shapeB]
theorem evE_callB' {c : Cl} {env : Bc.Env} {f : Nat} {es : Es} : evE c (.callB f es) env = (evEs c es env).bind fun ds => (noX (c.call f ds)).bind fun d => (need (nob d)).bind fun _ => M.pure d := by rw [evE] <;> rfl
theorem evS_put' {c : Cl} {env : Bc.Env} {i : Nat} {k e : E} {xs : List D} (h : env[i]? = some (.own xs)) : evS c w (.put i k e) env = (evE c e env).bind fun x => (evE c k env).bind fun y => (match y with
      | .int j => (ofOpt (L2.ixN xs.length j)).bind fun n => M.pure (.nx, env.set i (.own (xs.set n x)))
      | _ => stuck) := by rw [evS, h] <;> rfl
theorem nobs_map {α : Type} {f : α → D} (h : ∀ x, nob (f x) = true) : ∀ xs : List α, nobs (xs.map f) = true
  | [] => rfl
  | x :: xs => by
    rw [List.map_cons]
    unfold nobs
    rw [h x, nobs_map h xs]
    rfl
theorem nob_ints (xs : List Int) : nob (dInts xs) = true := by
  show (true && nobs (xs.map .int)) = true
  rw [nobs_map (fun _ => rfl)]
  rfl
theorem tri_mapN {f : D → M (Option D)} {I : Nat → Sto → Prop} {F : D → D → Prop} {N : Nat} {xs : List D} (h : ∀ x ∈ xs, ∀ n, n < N → Tri (I n) (f x) fun o s => (∃ y, o = some y ∧ F x y) ∧ I (n + 1) s) :
    ∀ {n : Nat}, n + xs.length ≤ N → Tri (I n) (mapO f xs) fun ys s => All2 F xs ys ∧ I (n + xs.length) s := by
  induction xs with
  | nil => intro n hN; exact Tri.pure fun s hs => ⟨.nil, hs⟩
  | cons x xs ih =>
    intro n hN
    rw [List.length_cons] at hN
    unfold mapO
    refine Tri.bindF (h x (List.mem_cons_self ..) n (by omega)) fun o ho => ?_
    obtain ⟨y, rfl, hy⟩ := ho
    refine Tri.bindF (ih (fun z hz => h z (List.mem_cons_of_mem _ hz)) (n := n + 1) (by omega)) fun ys hys => ?_
    refine Tri.pure fun s hs => ⟨.cons hy hys, ?_⟩
    rw [List.length_cons, show n + (xs.length + 1) = n + 1 + xs.length by omega]
    exact hs
theorem mul4_false : binD .Mult (.lst true [.bl false]) (.int 4) = M.pure (.lst true [.bl false, .bl false, .bl false, .bl false]) := by kernel_rfl
theorem eq4_false : cmpD .Eq (.lst true [.bl false, .bl false, .bl false, .bl false]) (.lst true [.bl false, .bl false, .bl false, .bl false]) = M.pure (.bl true) := by kernel_rfl
theorem eq_ints (xs ys : List Int) : cmpD .Eq (dInts xs) (dInts ys) = M.pure (.bl (decide (xs = ys))) := (Enc.int.lst true).eq (by decide) xs ys
theorem plain_tup' (xs : List D) : plain (.tup xs) = plains xs := rfl
theorem plain_lst' (b : Bool) (xs : List D) : plain (.lst b xs) = plains xs := rfl
theorem plains_nil' : plains [] = true := rfl
theorem plains_cons' (x : D) (xs : List D) : plains (x :: xs) = (plain x && plains xs) := rfl
theorem plain_non' : plain .non = true := rfl
theorem plain_bl' (b : Bool) : plain (.bl b) = true := rfl
theorem empty_ne {x : Str} (h : isWord (.str x) = true) : (Str.ofString "" == x) = false := by
  have h : (decide (0 < x.length) && decide (x.length ≤ 8) && x.cps.toList.all letter) = true := h
  rw [Bool.and_eq_true, Bool.and_eq_true] at h
  have := of_decide_eq_true h.1.1
  have h' : ¬ ("" : Str) = x := fun e => by
    subst e
    exact absurd this (by decide +kernel)
  simpa using h'
theorem okS_of (s : String) : okS (Str.ofString s) = true := by
  show (Str.ofString s).cps.all (· < 0x110000) = true
  rw [← Array.all_toList, List.all_eq_true]
  intro c hc
  rw [Str.ofString_eq_toList] at hc
  simp at hc
  obtain ⟨a, _, rfl⟩ := hc
  apply decide_eq_true
  have := a.valid
  have h : a.toNat < 0x110000 := by
    rcases this with h | h
    · have : a.toNat < 0xd800 := h
      omega
    · exact h.2
  exact h
theorem great_lt : GREATEST + 1 + GREATEST < 2 ^ NB := by
  unfold GREATEST NB
  decide
theorem g_mul : binD .Mult (.int 100000000000000000000000000000000000000000000000000) (.int 100000000000000000000000000000000000000000000000000) = M.pure (.int (GREATEST : Nat)) := by kernel_rfl
theorem g_pow : binD .Pow (.int 10) (.int 50) = M.pure (.int 100000000000000000000000000000000000000000000000000) := by kernel_rfl
theorem pl_int {a : Nat} (h : a ≤ GREATEST + 1 + GREATEST) : plain (.int (a : Nat)) = true := plain_nat (Nat.lt_of_le_of_lt h great_lt) (by decide)
theorem pl_neg {a : Nat} (h : a ≤ GREATEST) : plain (.int (-1 - (a : Int))) = true := by
  have := great_lt
  exact plain_int' (n := NB) (show (-1 - (a : Int)).natAbs < 2 ^ NB by omega) (by decide)
theorem g_str {a : Nat} (h : a ≤ GREATEST) : bStr [.int (a : Nat)] = M.pure (.str (toString (a : Int))) ∧ plain (.str (toString (a : Int))) = true := by
  have h1 : a < 10 ^ 101 := Nat.lt_of_le_of_lt h (by unfold GREATEST; decide)
  constructor
  · show (if (a : Int).natAbs.log2 < 1920 then (M.pure (.str (toString (a : Int))) : M D) else stuck) = _
    rw [if_pos]
    rw [Int.natAbs_natCast]
    by_cases h0 : a = 0
    · subst h0; decide
    · exact (Nat.log2_lt h0).2 (Nat.lt_trans h1 (by decide))
  · have := PyProof.Rows.toString_length_le (v := (a : Int)) (by omega) (k := 101) (by decide) (by exact_mod_cast h1)
    show (decide ((Str.ofString (toString (a : Int))).length ≤ LINE) && okS (Str.ofString (toString (a : Int)))) = true
    rw [okS_of, decide_eq_true (toLine (Nat.le_trans this (by decide)))]
    rfl
def rowR (ns : List Str) (nums : List Nat) : List D := (ns.zip nums).map fun p => .tup [.str p.1, .int (p.2 : Nat)]
theorem rowR_len {ns : List Str} {nums : List Nat} (h : nums.length = ns.length) : (rowR ns nums).length = ns.length := by
  unfold rowR
  rw [List.length_map, List.length_zip]
  omega
theorem numsB_len {ns : List Str} {xs : List D} (h : xs.length ≠ ns.length) : numsB ns (.tup xs) = false := by
  show (decide (xs.length = ns.length) && _) = false
  rw [decide_eq_false h]
  rfl
theorem plain_rowR {ns : List Str} (hn : NsOk ns) {nums : List Nat} (hg : ∀ n ∈ nums, n ≤ GREATEST) : ∀ x ∈ rowR ns nums, plain x = true := by
  intro x hx
  unfold rowR at hx
  rw [List.mem_map] at hx
  obtain ⟨p, hp, rfl⟩ := hx
  obtain ⟨h1, h2⟩ := List.of_mem_zip (a := p.1) (b := p.2) hp
  have := hg _ h2
  rw [plain_tup', plains_cons', plains_cons', plains_nil', plain_strW (hn.nm.ok _ h1) (word_len (hn.nm.word _ h1)), pl_int (by omega)]
  rfl
structure Duo (a b : Ru) (ns : List Str) : Prop where
  ok : RusOk [a, b] ns
  nm : sortS (joinN [a.nm, b.nm]) = ns
theorem Duo.two {a b : Ru} {ns : List Str} (h : Duo a b ns) (hw : BIG ≤ w) : Two w a.rf b.rf ns NB (lenOf [a, b]) := (h.ok.many h.nm hw).two
theorem alike_val {a b : Ru} {ns : List Str} (h : Duo a b ns) (x : List Nat) : alikeQ a.rf b.rf ns x = decide (valueL a.fs (ownL a ns x) = valueL b.fs (ownL b ns x)) := by
  unfold alikeQ
  have ea : valAt a.rf.1 a.rf.2 ns x = ((valueL a.fs (ownL a ns x) : Int) : Rat) := valAt_ru (h.ok.each a (by simp)) ns x
  have eb : valAt b.rf.1 b.rf.2 ns x = ((valueL b.fs (ownL b ns x) : Int) : Rat) := valAt_ru (h.ok.each b (by simp)) ns x
  rw [ea, eb, decide_eq_decide]
  exact ⟨fun e => by exact_mod_cast e, fun e => by rw [e]⟩
theorem plain_row {ns : List Str} (hn : Nm ns) {nums : List Nat} (hg : ∀ n ∈ nums, n < 2 ^ NB) : plain (dRowN ns nums) = true := by
  refine plain_tupm fun p hp => ?_
  obtain ⟨h1, h2⟩ := List.of_mem_zip (a := p.1) (b := p.2) hp
  rw [plain_tup', plains_cons', plains_cons', plains_nil', plain_strW (hn.ok _ h1) (word_len (hn.word _ h1)), plain_nat (hg _ h2) (by decide)]
  rfl
theorem ap_apart {a b : Ru} {ns : List Str} (h : Duo a b ns) (hw : BIG ≤ w) {nums : List Nat} (hl : nums.length = ns.length) (hg : ∀ n ∈ nums, n < 2 ^ NB) {d : D} (hd : plain d = true) :
    callF pg w (k + 9) 28 [.tup [.str (Str.ofString "apart"), dR a.rl, dR b.rl, dRowN ns nums], d] = M.pure (.bl (!decide (valueL a.fs (ownL a ns nums) = valueL b.fs (ownL b ns nums)) && (isEmp d && nums.all fun n => decide (n ≤ GREATEST)))) := by
  have e := acc_apart (w := w) (k := k + 8) (dR a.rl) (dR b.rl) (dRowN ns nums) d
  refine e.trans ?_
  rw [← alike_val h]
  exact so_apart hw (h.two hw) hl hg (plain_row h.ok.nms hg) hd
theorem ap_nums {a b : Ru} {ns : List Str} (h : Duo a b ns) (hw : BIG ≤ w) {v d : D} (hv : plain v = true) (hno : numsB ns v = false) :
    callF pg w (k + 9) 28 [.tup [.str (Str.ofString "apart"), dR a.rl, dR b.rl, v], d] = M.pure (.bl false) := by
  have e := acc_apart (w := w) (k := k + 8) (dR a.rl) (dR b.rl) v d
  refine e.trans ?_
  exact so_nums hw (h.two hw) ne_as hv hno
theorem duo_same {a b : Ru} {ns : List Str} (hn : NsOk ns) (ha : RuOk a ∧ a.nm = ns) (hb : RuOk b ∧ b.nm = ns) : Duo a b ns := by
  refine ⟨⟨by simp, ?_, hn.nm, ?_⟩, ?_⟩
  · intro r hr; simp at hr; rcases hr with rfl | rfl
    · exact ha.1
    · exact hb.1
  · intro r hr x hx; simp at hr; rcases hr with rfl | rfl
    · rw [ha.2] at hx; exact hx
    · rw [hb.2] at hx; exact hx
  · rw [join_same (ns := ns) (by simp) (by
      intro l hl
      simp at hl
      rcases hl with rfl | rfl
      · exact ha.2
      · exact hb.2)]
    exact hn.srt
theorem own_same {r : Ru} {ns : List Str} (hn : NsOk ns) (h : r.nm = ns) {x : List Nat} (hx : x.length = ns.length) : ownL r ns x = x := by
  show (r.nm.map fun y => (x[ns.idxOf y]?).getD 0) = x
  rw [h]
  exact own_self hn.nm hx
/-- a made rule of a list of factors -/
theorem rule_get {ns : List Str} (hn : NsOk ns) {fs : List Int} (h4 : fs.length = 4) (hf : ∀ f ∈ fs, f ∈ factorL) {d : D} (h : Ruled ns fs d) : ∃ r : Ru, d = dR r.rl ∧ (RuOk r ∧ r.nm = ns) ∧ r.fs = fs := by
  obtain ⟨o, sc, hlay, rfl⟩ := h
  exact ⟨⟨ns, o, sc, fs⟩, rfl, ⟨⟨hn.nm, hn.l12, hlay, h4, fun f h => (factorL_lt (hf f h)).mono (by decide)⟩, rfl⟩, rfl⟩
theorem eq_span_nil {n : Nat} (h : n = 1 ∨ n = 2) : cmpD .Eq (spanD n none) (.tup []) = M.pure (.bl false) := by
  rcases h with rfl | rfl <;> kernel_rfl
theorem plain_span {n : Nat} (h : n = 1 ∨ n = 2) : plain (spanD n none) = true := (cert_span h).pl
theorem emp_span (n : Nat) : isEmp (spanD n none) = false := rfl
theorem isi_span (n : Nat) : isiDs (spanD n none) [.tuple] = some true := rfl
theorem join_two {x y : Str} (h : x ≠ y) : joinN [[x], [y]] = [x, y] := by
  have h' : ¬ y = x := fun e => h e.symm
  simp [joinN, h']
theorem sortS_two {x y : Str} : sortS [x, y] = if ltS y x then [y, x] else [x, y] := by
  have e : ltCps y.cps.toList x.cps.toList = ltS y x := PyProof.Rows.ltCps_eq _ _
  simp only [sortS, insS, e]
/-- two names in order -/
structure Ordd (x y lo hi : Str) : Prop where
  ns : NsOk [lo, hi]
  srt : (if ltS y x = true then [D.str y, D.str x] else [D.str x, D.str y]) = [.str lo, .str hi]
  srt' : sortS [x, y] = [lo, hi]
  is : x = lo ∧ y = hi ∨ x = hi ∧ y = lo
  ne : lo ≠ hi
theorem ordd {x y : Str} (hx : Wd x) (hy : Wd y) (hne : x ≠ y) : ∃ lo hi, Ordd x y lo hi := by
  cases e : ltS y x with
  | true => exact ⟨y, x, ns_two hy hx e, by rw [e]; rfl, by rw [sortS_two, e]; rfl, .inr ⟨rfl, rfl⟩, fun e => hne e.symm⟩
  | false => exact ⟨x, y, ns_two hx hy (ltS_total (fun e => hne e.symm) e), by rw [e]; rfl, by rw [sortS_two, e]; rfl, .inl ⟨rfl, rfl⟩, hne⟩
theorem duo_two {x y lo hi : Str} (h : Ordd x y lo hi) (hne : x ≠ y) {a b : Ru} (ha : RuOk a ∧ a.nm = [x]) (hb : RuOk b ∧ b.nm = [y]) : Duo a b [lo, hi] := by
  have hin : x ∈ [lo, hi] ∧ y ∈ [lo, hi] := by
    rcases h.is with ⟨rfl, rfl⟩ | ⟨rfl, rfl⟩ <;> simp
  refine ⟨⟨by simp, ?_, h.ns.nm, ?_⟩, ?_⟩
  · intro r hr; simp at hr; rcases hr with rfl | rfl
    · exact ha.1
    · exact hb.1
  · intro r hr z hz; simp at hr; rcases hr with rfl | rfl
    · rw [ha.2] at hz; simp at hz; subst hz; exact hin.1
    · rw [hb.2] at hz; simp at hz; subst hz; exact hin.2
  · rw [ha.2, hb.2, join_two hne]
    exact h.srt'
theorem wd_x : Wd ("x" : Str) := ⟨by decide +kernel, ltrs_of (by decide +kernel)⟩
theorem wd_y : Wd ("y" : Str) := ⟨by decide +kernel, ltrs_of (by decide +kernel)⟩
theorem wd_z : Wd ("z" : Str) := ⟨by decide +kernel, ltrs_of (by decide +kernel)⟩
/-- a name that is none of the two -/
theorem spare_of {x y : Str} (f : Bool) : ∃ z : Str, Wd z ∧ z ≠ x ∧ z ≠ y ∧ (([("x" : Str), "y", "z"].filter fun u => !decide (u ∈ [x, y])).map D.str)[0]? = some (.str z) := by
  have nxy : ("x" : Str) ≠ "y" := by decide +kernel
  have nxz : ("x" : Str) ≠ "z" := by decide +kernel
  have nyz : ("y" : Str) ≠ "z" := by decide +kernel
  by_cases h1 : ("x" : Str) ∈ [x, y]
  · by_cases h2 : ("y" : Str) ∈ [x, y]
    · have h3 : ("z" : Str) ∉ [x, y] := by
        intro h3
        simp only [List.mem_cons, List.not_mem_nil, or_false] at h1 h2 h3
        rcases h1 with rfl | rfl <;> rcases h2 with h2 | h2 <;> rcases h3 with h3 | h3 <;> first | exact absurd h2.symm nxy | exact absurd h3.symm nxz | (rw [← h2] at h3; exact absurd h3.symm nyz)
      refine ⟨"z", wd_z, fun e => h3 (by rw [e]; simp), fun e => h3 (by rw [e]; simp), ?_⟩
      simp only [List.filter_cons, h1, h2, h3, decide_true, decide_false, Bool.not_true, Bool.not_false]
      rfl
    · refine ⟨"y", wd_y, fun e => h2 (by rw [e]; simp), fun e => h2 (by rw [e]; simp), ?_⟩
      simp only [List.filter_cons, h1, h2, decide_true, decide_false, Bool.not_true, Bool.not_false]
      rfl
  · refine ⟨"x", wd_x, fun e => h1 (by rw [e]; simp), fun e => h1 (by rw [e]; simp), ?_⟩
    simp only [List.filter_cons, h1, decide_false, Bool.not_false]
    rfl
end CK

set_option linter.all false
set_option autoImplicit false
set_option maxRecDepth 100000
set_option maxHeartbeats 1000000
namespace CK
open PySem PySem.Spec L2 Bc
variable {w k : Nat}
theorem s_so (a b : Bool) : callF pg w (k + 1) 54 [.bl a, .bl b] = M.pure (.bl (a == b)) := by
  rw [call_law_so]
  cases a <;> cases b <;> rfl
theorem so_any {x : D} {due : Bool} (h : x = .bl due) : callF pg w (k + 1) 54 [.bl due, x] = M.pure (.bl true) := by
  subst h
  rw [s_so]
  cases due <;> rfl
end CK

set_option linter.all false
set_option autoImplicit false
set_option maxRecDepth 100000
set_option maxHeartbeats 1000000
namespace CK
open PySem PySem.Spec L2 Bc
variable {w k : Nat}
/-! ### tuples changed -/
def putL (R : List D) (t : Nat) (r : D) : List D := R.take t ++ r :: R.drop (t + 1)
theorem addTs {a b : List D} (h : a.length + b.length ≤ 1000) : binD .Add (.tup a) (.tup b) = M.pure (.tup (a ++ b)) := binD_addT (toLine (by omega))
theorem s_put {xs : List D} {t : Nat} {d : D} (h : xs.length ≤ 100) : callF pg w (k + 1) 55 [.tup xs, .int (t : Nat), d] = M.pure (.tup (putL xs t d)) := by
  rw [call_law_put]
  have c1 := cut_to xs t
  have c2 := cut_to2 xs t
  have hk : (xs.take t).length ≤ 100 := by rw [List.length_take]; omega
  have hd : (xs.drop (t + 1)).length ≤ 100 := by rw [List.length_drop]; omega
  simp [b_law_put, c1, c2, need_len, toLine]
  rw [addTs (by simp only [List.length_cons, List.length_nil]; omega), pure_bind', addTs (by rw [List.length_append]; simp only [List.length_cons, List.length_nil]; omega), List.append_assoc]
  rfl
def withL (P : D) (R : List D) (t s : Nat) (ss : List D) (d : D) : D := .tup [P, .tup (putL R t (.tup (putL ss s d)))]
theorem s_with_share {P : D} {R ss : List D} {t s : Nat} {d : D} (h : R.length ≤ 100) (h2 : ss.length ≤ 100) (hr : R[t]? = some (.tup ss)) : callF pg w (k + 2) 57 [.tup [P, .tup R], .int (t : Nat), .int (s : Nat), d] = M.pure (withL P R t s ss d) := by
  rw [call_law_with_share]
  have e1 := s_put (w := w) (k := k) (t := s) (d := d) h2
  have e2 := s_put (w := w) (k := k) (t := t) (d := .tup (putL ss s d)) h
  simp [b_law_with_share, atI_ofNat, hr, e1, e2, need_len, toLine]
  rfl
def swapL (xs : List D) (t : Nat) : List D := xs.take t ++ [(xs[t + 1]?).getD .non, (xs[t]?).getD .non] ++ xs.drop (t + 2)
theorem cut_from2 (xs : List D) (n : Nat) : cutD xs (some ((n : Int) + 2)) none = xs.drop (n + 2) := cut_from xs (n + 2)
theorem cut_toS (xs : List D) (n : Nat) : cutD xs none (some ((n : Int) + 1)) = xs.take (n + 1) := cut_to xs (n + 1)
theorem s_swapped {xs : List D} {t : Nat} (h : xs.length ≤ 100) (ht : t + 1 < xs.length) : callF pg w (k + 1) 63 [.tup xs, .int (t : Nat)] = M.pure (.tup (swapL xs t)) := by
  rw [call_law_swapped]
  have c1 := cut_to xs t
  have c2 := cut_from2 xs t
  have hk : (xs.take t).length ≤ 100 := by rw [List.length_take]; omega
  have hd : (xs.drop (t + 2)).length ≤ 100 := by rw [List.length_drop]; omega
  have a1 : L2.atI xs ((t : Int) + 1) = some ((xs[t + 1]?).getD .non) := by
    rw [show ((t : Int) + 1) = ((t + 1 : Nat) : Int) from rfl, atI_ofNat, List.getElem?_eq_getElem ht]; rfl
  have a2 : L2.atI xs (t : Int) = some ((xs[t]?).getD .non) := by
    rw [atI_ofNat, List.getElem?_eq_getElem (by omega)]; rfl
  simp [b_law_swapped, c1, c2, a1, a2, need_len, toLine]
  rw [addTs (by simp only [List.length_cons, List.length_nil]; omega), pure_bind', addTs (by rw [List.length_append]; simp only [List.length_cons, List.length_nil]; omega)]
  rfl
def dblL (xs : List D) (t : Nat) (d : D) : List D := xs.take (t + 1) ++ [d] ++ xs.drop (t + 1)
theorem s_doubled {xs : List D} {t : Nat} {d : D} (h : xs.length ≤ 100) : callF pg w (k + 1) 64 [.tup xs, .int (t : Nat), d] = M.pure (.tup (dblL xs t d)) := by
  rw [call_law_doubled]
  have c1 := cut_toS xs t
  have c2 := cut_to2 xs t
  have hk : (xs.take (t + 1)).length ≤ 100 := by rw [List.length_take]; omega
  have hd : (xs.drop (t + 1)).length ≤ 100 := by rw [List.length_drop]; omega
  simp [b_law_doubled, c1, c2, need_len, toLine]
  rw [addTs (by simp only [List.length_cons, List.length_nil]; omega), pure_bind', addTs (by rw [List.length_append]; simp only [List.length_cons, List.length_nil]; omega)]
  rfl
/-! ### a span of numbers made -/
def lateP (e : Option Nat) (t : Nat) : Bool := match e with
  | none => false
  | some e => decide (e ≤ t)
def eD : Option Nat → D
  | none => .non
  | some e => .int (e : Nat)
def sharesP (ns : List Nat) (t : Nat) : List Rat := ns.map fun a => if a < 4 then ((sharesL [t])[a]?).getD 0 else 0
def shareP (ns : List Nat) (e : Option Nat) (t : Nat) : D := if lateP e t then .non else dVec (sharesP ns t)
def rowP (ns : List Nat) (e : Option Nat) (a : Nat) : D := .tup ([2 * a, 2 * a + 1].map (shareP ns e))
def paperD (ns : List Nat) (e : Option Nat) : D := .tup [.tup (ns.map fun a => dRow [a]), .tup (ns.map (rowP ns e))]
theorem late_P {γ : Type} (e : Option Nat) (t : Nat) (F : D → M γ) : (cmpD .IsNot (eD e) .non).bind (fun x => (truM x).bind fun k' => (if k' = true then cmpD .GtE (.int (t : Nat)) (eD e) else M.pure x).bind F) = F (.bl (lateP e t)) := by
  cases e with
  | none => rfl
  | some e =>
    have e1 : cmpD .IsNot (.int (e : Nat)) .non = M.pure (.bl true) := rfl
    show (cmpD .IsNot (.int (e : Nat)) .non).bind _ = _
    rw [e1, pure_bind', truM_bl, pure_bind', if_pos rfl]
    show (cmpD .GtE (.int (t : Nat)) (.int (e : Nat))).bind F = _
    rw [cmpD_ge_i, pure_bind']
    unfold lateP
    congr 2
    rw [decide_eq_decide]
    omega
theorem sharesL_len (t : Nat) : (sharesL [t]).length = 4 := rfl
theorem s_paper {ns : List Nat} {e : Option Nat} (hl : ns.length ≤ 10) (hb : ∀ a ∈ ns, a < 100) (hw : BIG ≤ w) : callF pg w (k + 4) 56 [.lst true (dNat ns), eD e] = M.pure (paperD ns e) := by
  rw [call_law_paper]
  simp [b_law_paper, need_len, toLine]
  refine Ret.eq ?_
  refine forL_pos_ret (e := fun a : Nat => D.int a) (fun (v : List D) (j : Slot × Slot × Slot × Slot × Slot × Slot) => [.val (.lst true (dNat ns)), .val (eD e), .own v, j.1, j.2.1, j.2.2.1, j.2.2.2.1, j.2.2.2.2.1, j.2.2.2.2.2])
    (xs := ns) (fun i => (ns.take i).map (rowP ns e)) (j := (.un, .un, .un, .un, .un, .un)) ?_ ?_
  · intro i hi j
    have ha := hb _ (List.getElem_mem hi)
    have ht : (ns.take (i + 1)).map (rowP ns e) = (ns.take i).map (rowP ns e) ++ [rowP ns e ns[i]] := by
      rw [List.take_succ, List.getElem?_eq_getElem hi, List.map_append]
      rfl
    rw [ht]
    have hlt : ((ns.take i).map (rowP ns e)).length ≤ 10 := by rw [List.length_map, List.length_take]; omega
    generalize (ns.take i).map (rowP ns e) = v at *
    generalize ns[i] = a at *
    have hm := binD_mul (mulOk_small (i := 2) (j := (a : Int)) (by decide) (by omega))
    have hp : [D.int (2 * (a : Int)), D.int (2 * (a : Int) + 1)] = [2 * a, 2 * a + 1].map fun t : Nat => D.int t := by simp
    simp [hm]
    rw [hp]
    have h2t : ∀ t ∈ [2 * a, 2 * a + 1], t < 1000 := by
      intro t ht
      simp only [List.mem_cons, List.not_mem_nil, or_false] at ht
      rcases ht with rfl | rfl <;> omega
    refine forL_pos_ret (e := fun t : Nat => D.int t) (fun (r : List D) (j : Slot × Slot × Slot × Slot) => [.val (.lst true (dNat ns)), .val (eD e), .own v, .val (.int (a : Nat)), .own r, j.1, j.2.1, j.2.2.1, j.2.2.2])
      (xs := [2 * a, 2 * a + 1]) (fun i => ([2 * a, 2 * a + 1].take i).map (shareP ns e)) (j := (j.2.2.1, j.2.2.2.1, j.2.2.2.2.1, j.2.2.2.2.2)) ?_ ?_
    · intro i hi j
      have ht := h2t _ (List.getElem_mem hi)
      have h2 : ([2 * a, 2 * a + 1].take (i + 1)).map (shareP ns e) = ([2 * a, 2 * a + 1].take i).map (shareP ns e) ++ [shareP ns e [2 * a, 2 * a + 1][i]] := by
        rw [List.take_succ, List.getElem?_eq_getElem hi, List.map_append]
        rfl
      rw [h2]
      have hlr : (([2 * a, 2 * a + 1].take i).map (shareP ns e)).length ≤ 2 := by rw [List.length_map, List.length_take]; exact Nat.min_le_right ..
      generalize ([2 * a, 2 * a + 1].take i).map (shareP ns e) = r at *
      generalize [2 * a, 2 * a + 1][i] = t at *
      have es := s_shares (w := w) (k := k) (x := [t]) (.inl rfl) (by
        intro n hn
        have hn : n = t := by simpa using hn
        subst hn
        exact Nat.lt_of_lt_of_le ht (by decide)) hw
      have hr : need (decide (r.length < LINE)) = M.pure () := need_of (decide_eq_true (show r.length < 16777216 by omega))
      simp [show ∀ d, D.tup [d] = D.tup [d] from fun _ => rfl, show D.tup [D.int (t : Nat)] = dRow [t] from rfl, es]
      rw [late_P]
      unfold shareP
      cases lateP e t with
      | true =>
        simp [hr]
        exact Ret.pure ⟨_, _, _, _, rfl⟩
      | false =>
        simp
        rw [show dNat ns = ns.map fun a : Nat => D.int a from rfl, mapO_map (g := fun a : Nat => dQ (if a < 4 then ((sharesL [t])[a]?).getD 0 else 0))]
        · rw [noX_pure, pure_bind', need_len (by rw [List.length_map]; exact toLine (by omega)), pure_bind', hr, pure_bind']
          have hx : D.tup (ns.map fun a : Nat => dQ (if a < 4 then ((sharesL [t])[a]?).getD 0 else 0)) = dVec (sharesP ns t) := by
            unfold sharesP dVec
            rw [List.map_map]
            rfl
          rw [hx]
          exact Ret.pure ⟨_, _, _, _, rfl⟩
        · intro b hb
          have hlt : cmpD .Lt (.int (b : Nat)) (.int 4) = M.pure (.bl (decide (b < 4))) := by
            rw [cmpD_lt_i]
            congr 2
            rw [decide_eq_decide]
            omega
          rw [hlt, pure_bind', truM_bl, pure_bind']
          by_cases h4 : b < 4
          · have : subD (.lst true ((sharesL [t]).map dQ)) (.int (b : Nat)) = M.pure (dQ (((sharesL [t])[b]?).getD 0)) := by
              rw [subD_lst, atI_ofNat, List.getElem?_map, List.getElem?_eq_getElem (by rw [sharesL_len]; exact h4)]
              rfl
            simp [h4, this]
          · simp [h4]
            rfl
    · intro j
      have hv : need (decide (v.length < LINE)) = M.pure () := need_of (decide_eq_true (show v.length < 16777216 by omega))
      rw [List.take_length]
      simp [hv, rowP]
      exact Ret.pure ⟨_, _, _, _, _, _, rfl⟩
  · intro j
    rw [List.take_length]
    simp [need_len, toLine]
    rw [show dNat ns = ns.map fun a : Nat => D.int a from rfl, mapO_map (g := fun a : Nat => dRow [a]) (fun a ha => rfl), noX_pure, pure_bind', need_len (by rw [List.length_map]; exact toLine (by omega)), pure_bind']
    exact Ret.pure rfl
end CK

set_option linter.all false
set_option autoImplicit false
set_option maxRecDepth 100000
set_option maxHeartbeats 1000000
namespace CK
open PySem PySem.Spec L2 Bc
variable {w k : Nat}
/-! ### two made rules of the same names -/
structure Pr (a b : Ru) (ns : List Str) : Prop where
  nn : NsOk ns
  ra : RuOk a ∧ a.nm = ns
  rb : RuOk b ∧ b.nm = ns
theorem Pr.swap {a b : Ru} {ns : List Str} (h : Pr a b ns) : Pr b a ns := ⟨h.nn, h.rb, h.ra⟩
theorem Pr.self {a b : Ru} {ns : List Str} (h : Pr a b ns) : Pr a a ns := ⟨h.nn, h.ra, h.ra⟩
theorem Pr.duo {a b : Ru} {ns : List Str} (h : Pr a b ns) : Duo a b ns := duo_same h.nn h.ra h.rb
theorem Pr.same {a b : Ru} {ns : List Str} (h : Pr a b ns) : SameN [a, b] ns := by
  refine ⟨h.duo.ok, by simp, ?_⟩
  intro r hr
  simp at hr
  rcases hr with rfl | rfl
  · exact h.ra.2
  · exact h.rb.2
def alikeV (a b : Ru) (p : List Nat) : Bool := decide (valueL a.fs p = valueL b.fs p)
theorem alike_pr {a b : Ru} {ns : List Str} (h : Pr a b ns) {p : List Nat} (hp : p.length = ns.length) : alikeQ a.rf b.rf ns p = alikeV a b p := by
  rw [alike_val h.duo, own_same h.nn h.ra.2 hp, own_same h.nn h.rb.2 hp]
  rfl
theorem all_alike {a b : Ru} {ns : List Str} (h : Pr a b ns) {n : Nat} {e : Option (List Nat)} {d : D} (hn : n = ns.length) : (spanC n e d && (ptsOf d).all (alikeQ a.rf b.rf ns)) = (spanC n e d && (ptsOf d).all (alikeV a b)) := by
  subst hn
  cases hs : spanC ns.length e d with
  | false => rfl
  | true =>
    rw [← span_same h.same e d] at hs
    obtain ⟨ps, R, rfl, hps, _⟩ := spanB_get hs
    rw [ptsOf_map]
    congr 1
    rw [Bool.eq_iff_iff, List.all_eq_true, List.all_eq_true]
    exact ⟨fun hh p hp => by rw [← alike_pr h (hps p hp)]; exact hh p hp, fun hh p hp => by rw [alike_pr h (hps p hp)]; exact hh p hp⟩
theorem sm {a b : Ru} {ns : List Str} (h : Pr a b ns) (hw : BIG ≤ w) {d : D} (hd : Cert d) :
    callF pg w (k + 9) 28 [.tup [.str (Str.ofString "same"), dR a.rl, dR b.rl], d] = M.pure (.bl (spanC ns.length none d && (ptsOf d).all (alikeV a b))) := by
  have e := acc_same (w := w) (k := k + 8) (dR a.rl) (dR b.rl) d
  refine e.trans ?_
  rw [← all_alike h rfl, ← span_same h.same none d]
  exact so_same hw (h.duo.two hw) hd
theorem pt {a b : Ru} {ns : List Str} (h : Pr a b ns) (hw : BIG ≤ w) {nums : List Nat} (hl : nums.length = ns.length) (hg : ∀ n ∈ nums, n < 2 ^ NB) {d : D} (hd : Cert d) :
    callF pg w (k + 9) 28 [.tup [.str (Str.ofString "parting"), dR a.rl, dR b.rl, dRowN ns nums], d] = M.pure (.bl (!alikeV a b nums && (spanC ns.length (some nums) d && (ptsOf d).all (alikeV a b)))) := by
  have e := acc_parting (w := w) (k := k + 8) (dR a.rl) (dR b.rl) (dRowN ns nums) d
  refine e.trans ?_
  rw [← all_alike h rfl, ← span_same h.same (some nums) d, ← alike_pr h hl]
  exact so_parting hw (h.duo.two hw) hl hg (plain_row h.nn.nm hg) hd
/-! ### what a certificate must be, by looking -/
def fewB : D → Bool
  | .tup [.tup xs, _] => decide (xs.length ≤ 8)
  | _ => true
def certB (d : D) : Bool := plain d && (small d && fewB d)
theorem certB_ok {d : D} (h : certB d = true) : Cert d := by
  unfold certB at h
  rw [Bool.and_eq_true, Bool.and_eq_true] at h
  refine ⟨h.1, h.2.1, fun ps R e => ?_⟩
  have h2 := h.2.2
  rw [e] at h2
  have h2 : decide ((ps.map dRow).length ≤ 8) = true := h2
  have := of_decide_eq_true h2
  rwa [List.length_map] at this
/-! ### one rule against itself -/
theorem sm_self {r : Ru} {x : Str} (hx : Wd x) (hr : RuOk r ∧ r.nm = [x]) (hw : BIG ≤ w) {d : D} (hd : Cert d) :
    callF pg w (k + 9) 28 [.tup [.str (Str.ofString "same"), dR r.rl, dR r.rl], d] = M.pure (.bl (spanC 1 none d)) := by
  have h : Pr r r [x] := ⟨ns_one hx, hr, hr⟩
  have e := sm (w := w) (k := k) h hw hd
  rw [show [x].length = 1 from rfl] at e
  have : (ptsOf d).all (alikeV r r) = true := List.all_eq_true.2 fun p hp => decide_eq_true rfl
  rw [this, Bool.and_true] at e
  exact e
/-! ### a point behind -/
def tbL : List (Int × Int) := [(1, 1), (-1, 1), (1, 3), (-5, 2), (1000000000, 7)]
def zipF : List Int := [0, 2, -3, 0, 1]
def bendQ (rs : List Rat) (t b : Int) : List Rat := (rs.zip zipF).map fun p => frq (p.1.num * b + t * p.2 * (p.1.den : Nat)) ((p.1.den : Nat) * b)
def nums5 : List Nat := [0, 1, 2, 3, 4]
def P5 : D := .tup (nums5.map fun a => dRow [a])
def R5 : List D := nums5.map (rowP nums5 none)
def ss5 (t : Nat) : List D := [2 * t, 2 * t + 1].map (shareP nums5 none)
def bentH (t s : Nat) (q : Int × Int) : D := withL P5 R5 t s (ss5 t) (dVec (bendQ (sharesP nums5 (2 * t + s)) q.1 q.2))
def dueH (t s : Nat) (q : Int × Int) : Bool := (List.range 5).all fun o => decide ((((bendQ (sharesP nums5 (2 * t + s)) q.1 q.2)[o]?).getD 0).num = 0) || decide (o ≤ 2 * t + s)
def smallR (rs : List Rat) : Bool := decide (rs.length = 5) && rs.all fun q => decide (q.num.natAbs < 2 ^ 60) && decide (q.den < 2 ^ 60)
def behindOk : Bool := (certB (paperD nums5 none) && spanC 1 none (paperD nums5 none)) && ((List.range 5).all fun t => (List.range 2).all fun s => smallR (sharesP nums5 (2 * t + s)) && tbL.all fun q => certB (bentH t s q) && (spanC 1 none (bentH t s q) == dueH t s q))
theorem behind_ok : behindOk = true := by decide +kernel
theorem tri_pos {α β γ J : Type} {P : Sto → Prop} {f : D → Bc.Env → M (Fl × Bc.Env)} {e : β → D} (mk : α → J → Bc.Env) {xs : List β} (st : Nat → α) {j : J} {g : Fl × Bc.Env → M γ} {S : γ → Sto → Prop} (h : ∀ (i : Nat) (hi : i < xs.length) (j : J), Ret (f (e xs[i]) (mk (st i) j)) fun r => ∃ j', r = (.nx, mk (st (i + 1)) j'))
    (hr : ∀ j', Tri P (g (.nx, mk (st xs.length) j')) S) : Tri P ((forL f (xs.map e) (mk (st 0) j)).bind g) S := by
  obtain ⟨j', e⟩ := forL_pos mk st (j := j) h
  rw [e, pure_bind']
  exact hr j'
theorem R5_at {t : Nat} (h : t < 5) : R5[t]? = some (.tup (ss5 t)) := by
  match t, h with
  | 0, _ => rfl
  | 1, _ => rfl
  | 2, _ => rfl
  | 3, _ => rfl
  | 4, _ => rfl
theorem ss5_at {t s : Nat} (h : s < 2) : (ss5 t)[s]? = some (dVec (sharesP nums5 (2 * t + s))) := by
  match s, h with
  | 0, _ => rfl
  | 1, _ => rfl
def zipE (p : Rat × Int) : D := .tup [dQ p.1, .int p.2]
theorem zip_F (rs : List Rat) : itZip [dVec rs, .lst true [.int 0, .int 2, .int (-3), .int 0, .int 1]] = M.pure ((rs.zip zipF).map zipE) := by
  have e : D.lst true [.int 0, .int 2, .int (-3), .int 0, .int 1] = .lst true (zipF.map .int) := rfl
  rw [e, show dVec rs = .tup (rs.map dQ) from rfl, itZip_tl, List.zip_map, List.map_map]
  rfl
theorem tb_small {q : Int × Int} (h : q ∈ tbL) : Lt2 q.1 40 ∧ Lt2 q.2 40 ∧ q.2 ≠ 0 := by
  have : (tbL.all fun q => decide (q.1.natAbs < 2 ^ 40) && (decide (q.2.natAbs < 2 ^ 40) && decide (q.2 ≠ 0))) = true := by decide +kernel
  have := List.all_eq_true.1 this q h
  rw [Bool.and_eq_true, Bool.and_eq_true] at this
  exact ⟨of_decide_eq_true (p := q.1.natAbs < 2 ^ 40) this.1, of_decide_eq_true (p := q.2.natAbs < 2 ^ 40) this.2.1, of_decide_eq_true this.2.2⟩
theorem zipF_small {i : Int} (h : i ∈ zipF) : Lt2 i 5 := by
  have : (zipF.all fun i => decide (i.natAbs < 2 ^ 5)) = true := by decide +kernel
  exact of_decide_eq_true (p := i.natAbs < 2 ^ 5) (List.all_eq_true.1 this i h)
theorem s_behind {r : Ru} {x : Str} (hx : Wd x) (hr : RuOk r ∧ r.nm = [x]) (hw : BIG ≤ w) {p m : Nat} (hm : m ≤ 100000) :
    Tri (Pur p m) (callF pg w (k + 11) 58 [.loc p, dR r.rl]) fun d s => d = .bl true ∧ Pur p (m + 12) s := by
  rw [call_law_behind_right]
  have e1 := s_paper (w := w) (k := k + 6) (ns := nums5) (e := none) (by decide) (by decide) hw
  rw [show D.lst true (dNat nums5) = .lst true [.int 0, .int 1, .int 2, .int 3, .int 4] from rfl, show eD none = .non from rfl] at e1
  have hk := behind_ok
  unfold behindOk at hk
  rw [Bool.and_eq_true, Bool.and_eq_true] at hk
  obtain ⟨⟨hk1, hk2⟩, hk3⟩ := hk
  have e2 := sm_self (w := w) (k := k + 1) hx hr hw (certB_ok hk1)
  rw [hk2] at e2
  have g9 : binD .Pow (.int 10) (.int 9) = M.pure (.int 1000000000) := by kernel_rfl
  have r4 : itR1 [.int 4] = M.pure ([0, 1, 2, 3].map fun i : Int => D.int i) := by kernel_rfl
  simp [b_law_behind_right, need_len, toLine, e1]
  rw [e2, pure_bind']
  simp [r4, g9]
  have hs5 := fun n hn => s_draw (w := w) (k := k + 9) (p := p) (n := n) (many := 5) (by decide) (by decide) hn
  have hs2 := fun n hn => s_draw (w := w) (k := k + 9) (p := p) (n := n) (many := 2) (by decide) (by decide) hn
  simp at hs5 hs2
  refine Tri.bindF (Tri.pre (tri_forL
    (J := fun m env => ∃ j2 j5 j6 j7 j8 j9 j10 j11 j12 j13 j14, env = [.val (.loc p), .val (dR r.rl), j2, .val (paperD nums5 none), .val (.tup [.str (Str.ofString "same"), dR r.rl, dR r.rl]), j5, j6, j7, j8, j9, j10, j11, j12, j13, j14])
    (I := fun i s => Pur p (m + 3 * i) s) (N := 4) (n := 0) ?_ (by simp) ⟨_, _, _, _, _, _, _, _, _, _, _, rfl⟩) fun s hs => hs) fun r hr => ?_
  rotate_left
  · obtain ⟨env', rfl, j2, j5, j6, j7, j8, j9, j10, j11, j12, j13, j14, rfl⟩ := hr
    simp
    exact Tri.pure fun s hs => ⟨rfl, hs.mono (by omega)⟩
  · intro d hd i env hi hJ Q hQ
    obtain ⟨j2, j5, j6, j7, j8, j9, j10, j11, j12, j13, j14, rfl⟩ := hJ
    simp
    refine Tri.bindF (hs5 (m + 3 * i) (by omega)) fun d1 hd1 => ?_
    obtain ⟨t, rfl, ht⟩ := hd1
    refine Tri.bindF (hs2 (m + 3 * i + 1) (by omega)) fun d1 hd1 => ?_
    obtain ⟨u, rfl, hu⟩ := hd1
    refine Tri.bindF (s_one_of (p := p) (n := m + 3 * i + 1 + 1) (by simp) (by simp) (by omega)) fun d1 hd1 => ?_
    have hq : ∃ q ∈ tbL, d1 = .tup [.int q.1, .int q.2] := by
      have : d1 ∈ tbL.map fun q => D.tup [.int q.1, .int q.2] := hd1
      obtain ⟨q, h1, h2⟩ := List.mem_map.1 this
      exact ⟨q, h1, h2.symm⟩
    obtain ⟨q, hq, rfl⟩ := hq
    have hsm := List.all_eq_true.1 (List.all_eq_true.1 hk3 t (List.mem_range.2 ht)) u (List.mem_range.2 hu)
    rw [Bool.and_eq_true] at hsm
    have hsm2 := List.all_eq_true.1 hsm.2 q hq
    rw [Bool.and_eq_true] at hsm2
    have q1 : subD (paperD nums5 none) (.int 1) = M.pure (.tup R5) := rfl
    have r5 := R5_at ht
    have s5 := ss5_at (t := t) hu
    have hrs := hsm.1
    unfold smallR at hrs
    rw [Bool.and_eq_true] at hrs
    have hlen := of_decide_eq_true hrs.1
    simp [q1, atI_ofNat, r5, s5, zip_F]
    have hqs := tb_small hq
    have hrsm : ∀ v ∈ sharesP nums5 (2 * t + u), Lt2 v.num 60 ∧ v.den < 2 ^ 60 := fun v hv => by
      have := List.all_eq_true.1 hrs.2 v hv
      rw [Bool.and_eq_true] at this
      exact ⟨of_decide_eq_true (p := v.num.natAbs < 2 ^ 60) this.1, of_decide_eq_true (p := v.den < 2 ^ 60) this.2⟩
    have e57 : callF pg w (k + 8 + 2) 57 [paperD nums5 none, .int (t : Nat), .int (u : Nat), dVec (bendQ (sharesP nums5 (2 * t + u)) q.1 q.2)] = M.pure (bentH t u q) := s_with_share (by decide) (Nat.le_of_ble_eq_true rfl) r5
    have e28 := sm_self (w := w) (k := k + 1) hx hr hw (certB_ok hsm2.1)
    have hdue : spanC 1 none (bentH t u q) = dueH t u q := by simpa using hsm2.2
    rw [hdue] at e28
    unfold dueH at e28
    unfold bendQ at e28 e57
    unfold bentH at e28 e57
    generalize sharesP nums5 (2 * t + u) = rs at *
    have hpl : (rs.zip zipF).length = 5 := by rw [List.length_zip, hlen]; rfl
    refine tri_pos (e := zipE) (fun (v : List D) (j : Slot × Slot × Slot) => [.val (.loc p), .val (dR r.rl), .val d, .val (paperD nums5 none), .val (.tup [.str (Str.ofString "same"), dR r.rl, dR r.rl]), .own v, j6, .val (.int (t : Nat)), .val (.int (u : Nat)), .val (.int q.1), .val (.int q.2), j.1, j.2.1, j.2.2, j14])
      (xs := rs.zip zipF) (fun i => (((rs.zip zipF).take i).map fun p : Rat × Int => frq (p.1.num * q.2 + q.1 * p.2 * (p.1.den : Nat)) ((p.1.den : Nat) * q.2)).map dQ) (j := (j11, j12, j13)) ?_ ?_
    · intro i hi j
      have hm := List.getElem_mem hi
      have ht : ((rs.zip zipF).take (i + 1)).map (fun p : Rat × Int => frq (p.1.num * q.2 + q.1 * p.2 * (p.1.den : Nat)) ((p.1.den : Nat) * q.2)) = ((rs.zip zipF).take i).map (fun p : Rat × Int => frq (p.1.num * q.2 + q.1 * p.2 * (p.1.den : Nat)) ((p.1.den : Nat) * q.2)) ++ [frq ((rs.zip zipF)[i].1.num * q.2 + q.1 * (rs.zip zipF)[i].2 * ((rs.zip zipF)[i].1.den : Nat)) (((rs.zip zipF)[i].1.den : Nat) * q.2)] := by
        rw [List.take_succ, List.getElem?_eq_getElem hi, List.map_append]
        rfl
      rw [ht, List.map_append]
      have hlr : (((rs.zip zipF).take i).map fun p : Rat × Int => frq (p.1.num * q.2 + q.1 * p.2 * (p.1.den : Nat)) ((p.1.den : Nat) * q.2)).length ≤ 5 := by rw [List.length_map, List.length_take, hpl]; exact Nat.min_le_right ..
      generalize (((rs.zip zipF).take i).map fun p : Rat × Int => frq (p.1.num * q.2 + q.1 * p.2 * (p.1.den : Nat)) ((p.1.den : Nat) * q.2)) = v at *
      generalize (rs.zip zipF)[i] = z at *
      obtain ⟨z, f⟩ := z
      obtain ⟨hz, hf⟩ := List.of_mem_zip hm
      have hz := hrsm z hz
      have hf := zipF_small hf
      have hdz := lt2_nat hz.2
      have m1 := binD_mul (mulL hz.1 hqs.2.1 (by decide))
      have m2 := binD_mul (mulL hqs.1 hf (by decide))
      have m3 := binD_mul (mulL (hqs.1.mul hf) hdz (by decide))
      have m4 := binD_mul (mulL hdz hqs.2.1 (by decide))
      have hden : ((z.den : Nat) : Int) * q.2 ≠ 0 := Int.mul_ne_zero (by have := z.den_nz; omega) hqs.2.2
      have ef := s_frq (w := w) (k := k + 8) hden (Lt2.mono (Lt2.add ((hz.1.mul hqs.2.1).mono (show 60 + 40 ≤ 105 by decide)) ((hqs.1.mul hf).mul hdz)) (by decide)) ((hdz.mul hqs.2.1).mono (by decide)) hw
      have hr : need (decide ((v.map dQ).length < LINE)) = M.pure () := need_of (decide_eq_true (show _ < 16777216 by rw [List.length_map]; omega))
      simp at hr
      simp [zipE, dQ, m1, m2, m3, m4, ef, hr]
      exact Ret.pure ⟨_, _, _, rfl⟩
    · intro j
      rw [List.take_length]
      generalize hL : ((rs.zip zipF).map fun p : Rat × Int => frq (p.1.num * q.2 + q.1 * p.2 * (p.1.den : Nat)) ((p.1.den : Nat) * q.2)) = L at *
      have hLl : L.length = 5 := by rw [← hL, List.length_map]; exact hpl
      have r5 := itR1_nat (n := 5) (by decide)
      simp at r5
      simp [r5]
      have mt := binD_mul (mulOk_small (i := 2) (j := (t : Int)) (by decide) (by omega))
      rw [mapO_map (g := fun o : Nat => D.bl (decide (((L[o]?).getD 0).num = 0) || decide (o ≤ 2 * t + u)))]
      rotate_left
      · intro o ho
        rw [List.mem_range] at ho
        have g1 : L2.atI (L.map dQ) (o : Int) = some (dQ ((L[o]?).getD 0)) := by
          rw [atI_ofNat, List.getElem?_map, List.getElem?_eq_getElem (by omega)]; rfl
        have g2 : ∀ q : Rat, subD (dQ q) (.int 0) = M.pure (.int q.num) := fun q => rfl
        rw [subD_lst, g1, ofOpt_some', pure_bind', g2, pure_bind', cmpD_eq_i, pure_bind', truM_bl, pure_bind']
        by_cases h0 : ((L[o]?).getD 0).num = 0
        · simp [h0]
        · have hle : decide ((o : Int) ≤ 2 * (t : Int) + (u : Int)) = decide (o ≤ 2 * t + u) := decide_eq_decide.2 (by omega)
          simp [h0, mt, hle]
      rw [noX_pure, pure_bind', need_len (by rw [List.length_map, List.length_range]; exact toLine (by decide)), pure_bind', bAll_map, pure_bind']
      simp only [show dVec L = .tup (L.map dQ) from rfl] at e57 e28
      have hso : ∀ x : Bool, callF pg w (k + 9 + 1) 54 [.bl x, .bl x] = M.pure (.bl true) := fun x => so_any rfl
      rw [e57, pure_bind', e28, pure_bind', hso, pure_bind', truM_bl, pure_bind']
      simp
      exact Tri.pure fun s hs => hQ _ _ ⟨_, _, _, _, _, _, _, _, _, _, _, rfl⟩ (hs.mono (by omega))
end CK

set_option linter.all false
set_option autoImplicit false
set_option maxRecDepth 100000
set_option maxHeartbeats 1000000
namespace CK
open PySem PySem.Spec L2 Bc
variable {w k : Nat}
/-! ### points out of order -/
def nums4 : List Nat := [0, 1, 2, 3]
def P4 : List D := nums4.map fun a => dRow [a]
def R4 : List D := nums4.map (rowP nums4 none)
def share4 (t : Nat) : List D := (sharesP nums4 t).map dQ
def turnR (c : Nat) (a : Nat) : D := .tup ([2 * a, 2 * a + 1].map fun t => .tup (swapL (share4 t) c))
def moreR (s : Nat) (a : Nat) : D := .tup ([2 * a, 2 * a + 1].map fun t => .tup (dblL (share4 t) s (dQ 0)))
def certTurn (c : Nat) : D := .tup [.tup (swapL P4 c), .tup (swapL (nums4.map (turnR c)) c)]
def certTwice (s : Nat) : D := .tup [.tup (dblL P4 s ((P4[s]?).getD .non)), .tup (dblL (nums4.map (moreR s)) s (((nums4.map (moreR s))[s]?).getD .non))]
def badC (d : D) : Bool := certB d && !spanC 1 none d
def orderOk : Bool := (certB (paperD nums4 none) && spanC 1 none (paperD nums4 none)) && (([1, 2].all fun c => badC (certTurn c)) && (List.range 4).all fun s => badC (certTwice s))
theorem order_ok : orderOk = true := by decide +kernel
theorem badC_ok {d : D} (h : badC d = true) : Cert d ∧ spanC 1 none d = false := by
  unfold badC at h
  rw [Bool.and_eq_true] at h
  exact ⟨certB_ok h.1, by simpa using h.2⟩
theorem paper4 : paperD nums4 none = .tup [.tup P4, .tup R4] := rfl
theorem Tri.bindE {α β : Type} {P : Sto → Prop} {m m' : M α} {f : α → M β} {R : β → Sto → Prop} (e : m = m') (h : Tri P (m'.bind f) R) : Tri P (m.bind f) R := e ▸ h
theorem rows4 {F : D → M D} {h : Nat → D} (hf : ∀ t, F (.tup (share4 t)) = M.pure (h t)) : noX (mapO (fun a => (itSeq [a]).bind fun a => (noX (mapO (fun a => (F a).bind fun y => M.pure (some y)) a)).bind fun a => (need (lenOk a.length)).bind fun _ => M.pure (some (D.tup a))) R4) = M.pure (nums4.map fun a => .tup ([2 * a, 2 * a + 1].map h)) := by
  rw [show R4 = nums4.map (rowP nums4 none) from rfl, mapO_map (g := fun a => .tup ([2 * a, 2 * a + 1].map h)), noX_pure]
  intro a ha
  have e : itSeq [rowP nums4 none a] = M.pure ([2 * a, 2 * a + 1].map (shareP nums4 none)) := rfl
  rw [e, pure_bind', mapO_map (g := h), noX_pure, pure_bind', need_len (by rw [List.length_map]; exact toLine (by simp)), pure_bind']
  intro t ht
  rw [show shareP nums4 none t = .tup (share4 t) from rfl, hf, pure_bind']
theorem share4_len (t : Nat) : (share4 t).length = 4 := rfl
theorem add3 (a b c : Bool) : binD .Add (.lst true [.bl a, .bl b]) (.lst true [.bl c]) = M.pure (.lst true [.bl a, .bl b, .bl c]) := by
  cases a <;> cases b <;> cases c <;> kernel_rfl
theorem eq_tff : cmpD .Eq (.lst true [.bl true, .bl false, .bl false]) (.lst true [.bl true, .bl false, .bl false]) = M.pure (.bl true) := by kernel_rfl
theorem s_order {r : Ru} {x : Str} (hx : Wd x) (hr : RuOk r ∧ r.nm = [x]) (hw : BIG ≤ w) {p m : Nat} (hm : m ≤ 100000) :
    Tri (Pur p m) (callF pg w (k + 11) 65 [.loc p, dR r.rl]) fun d s => d = .bl true ∧ Pur p (m + 2) s := by
  rw [call_law_order_right]
  have e1 := s_paper (w := w) (k := k + 6) (ns := nums4) (e := none) (by decide) (by decide) hw
  rw [show D.lst true (dNat nums4) = .lst true [.int 0, .int 1, .int 2, .int 3] from rfl, show eD none = .non from rfl, paper4] at e1
  have hk := order_ok
  unfold orderOk at hk
  rw [Bool.and_eq_true, Bool.and_eq_true, Bool.and_eq_true, paper4] at hk
  obtain ⟨⟨hk1, hk2⟩, hk3, hk4⟩ := hk
  have e2 := sm_self (w := w) (k := k + 1) hx hr hw (certB_ok hk1)
  rw [hk2] at e2
  have hs2 := s_draw (w := w) (k := k + 9) (p := p) (n := m) (many := 2) (by decide) (by decide) (by omega)
  have hs4 := s_draw (w := w) (k := k + 9) (p := p) (n := m + 1) (many := 4) (by decide) (by decide) (by omega)
  simp at hs2 hs4
  simp [b_law_order_right, need_len, toLine, e1]
  refine Tri.bindF hs2 fun d hd => ?_
  obtain ⟨c, rfl, hc⟩ := hd
  simp [need_len, toLine]
  rw [show (1 : Int) + (c : Int) = ((c + 1 : Nat) : Int) by omega]
  have hc3 : c + 1 < 3 := by omega
  have hcm : c + 1 ∈ [1, 2] := by
    have : c = 0 ∨ c = 1 := by omega
    rcases this with rfl | rfl <;> simp
  generalize c + 1 = c at *
  refine Tri.bindE (rows4 (h := fun t => .tup (swapL (share4 t) c)) (F := fun a => callF pg w (k + 10) 63 [a, .int (c : Nat)]) fun t => s_swapped (by rw [share4_len]; decide) (by rw [share4_len]; omega)) ?_
  rw [show (nums4.map fun a => D.tup ([2 * a, 2 * a + 1].map fun t => D.tup (swapL (share4 t) c))) = nums4.map (turnR c) from rfl, pure_bind', need_len (toLine (by rw [List.length_map]; decide)), pure_bind']
  refine Tri.bindF hs4 fun d hd => ?_
  obtain ⟨u, rfl, hu⟩ := hd
  refine Tri.bindE (rows4 (h := fun t => .tup (dblL (share4 t) u (dQ 0))) (F := fun a => callF pg w (k + 10) 64 [a, .int (u : Nat), .tup [.int 0, .int 1]]) fun t => s_doubled (by rw [share4_len]; decide)) ?_
  rw [show (nums4.map fun a => D.tup ([2 * a, 2 * a + 1].map fun t => D.tup (dblL (share4 t) u (dQ 0)))) = nums4.map (moreR u) from rfl, pure_bind', need_len (toLine (by rw [List.length_map]; decide)), pure_bind']
  have b1 := badC_ok (List.all_eq_true.1 hk3 c hcm)
  have b2 := badC_ok (List.all_eq_true.1 hk4 u (List.mem_range.2 hu))
  have a1 := sm_self (w := w) (k := k + 1) hx hr hw b1.1
  have a2 := sm_self (w := w) (k := k + 1) hx hr hw b2.1
  rw [b1.2] at a1
  rw [b2.2] at a2
  unfold certTurn at a1
  unfold certTwice at a2
  have s1 := s_swapped (w := w) (k := k + 9) (xs := P4) (t := c) (by decide) (by show c + 1 < 4; omega)
  have s2 := s_swapped (w := w) (k := k + 9) (xs := nums4.map (turnR c)) (t := c) (by rw [List.length_map]; decide) (by rw [List.length_map]; show c + 1 < 4; omega)
  have i1 : subD (.tup P4) (.int (u : Nat)) = M.pure ((P4[u]?).getD .non) := by
    rw [subD_tup, atI_ofNat, List.getElem?_eq_getElem (by show u < 4; omega)]; rfl
  have i2 : subD (.tup (nums4.map (moreR u))) (.int (u : Nat)) = M.pure (((nums4.map (moreR u))[u]?).getD .non) := by
    rw [subD_tup, atI_ofNat, List.getElem?_eq_getElem (by rw [List.length_map]; show u < 4; omega)]; rfl
  have s3 := s_doubled (w := w) (k := k + 9) (xs := P4) (t := u) (d := (P4[u]?).getD .non) (by decide)
  have s4 := s_doubled (w := w) (k := k + 9) (xs := nums4.map (moreR u)) (t := u) (d := ((nums4.map (moreR u))[u]?).getD .non) (by rw [List.length_map]; decide)
  rw [e2, pure_bind', s1, pure_bind', s2, pure_bind', a1, pure_bind', i1, pure_bind', s3, pure_bind', i2, pure_bind', s4, pure_bind', a2, pure_bind', add3, pure_bind', eq_tff]
  exact Tri.pure fun s hs => ⟨rfl, hs⟩
end CK

set_option linter.all false
set_option autoImplicit false
set_option maxRecDepth 100000
set_option maxHeartbeats 1000000
namespace CK
open PySem PySem.Spec L2 Bc
variable {w k : Nat}
/-! ### points, rows and fractions of other kinds -/
def ss4 (t : Nat) : List D := [2 * t, 2 * t + 1].map (shareP nums4 none)
def eachP : List D := [.tup [.bl true], .lst true [.int 1], .tup [.int 1, .int 0], .tup [.int (-1)], .non, .int 1, .tup [.str "1"], .tup []]
def some1 : List D := eachP.map fun e => .tup [.tup (putL P4 1 e), .tup R4]
def some2 : List D := [.tup [.tup (putL P4 0 (.tup [.bl false])), .tup R4], .tup [.tup P4, .tup (R4 ++ R4.drop 3)]]
def some3 (t : Nat) : List D := [.tup [.tup P4, .tup (putL R4 t .non)]]
def eachR (t : Nat) : List D := [.tup (ss4 t ++ (ss4 t).drop 1), .tup ((ss4 t).take 1), .lst true (ss4 t), .tup (ss4 t ++ [.non]), .tup []]
def some4 (t : Nat) : List D := (eachR t).map fun e => .tup [.tup P4, .tup (putL R4 t e)]
def eachS (t s : Nat) : List D := [.lst true (share4 (2 * t + s)), .tup (share4 (2 * t + s) ++ [.tup [.int 0, .int 1]]), .tup (share4 (2 * t + s)).dropLast, .tup [], .tup (putL (share4 (2 * t + s)) s (.lst true [.int 0, .int 1]))]
def some5 (t s : Nat) : List D := (eachS t s).map fun e => .tup [.tup P4, .tup (putL R4 t (.tup (putL (ss4 t) s e)))]
def some6 (t : Nat) : List D := [.tup [.tup [], .tup []], .tup [.tup (putL P4 t (.tup [.int (t : Nat), .int (t : Nat)])), .tup R4]]
def someL (t s : Nat) : List D := some1 ++ some2 ++ some3 t ++ some4 t ++ some5 t s ++ some6 t
def kindsOk : Bool := (List.range 4).all fun t => (List.range 2).all fun s => (someL t s).all badC
theorem kinds_ok : kindsOk = true := by decide +kernel
theorem tri_posE {α β γ J : Type} {P : Sto → Prop} {f : D → Bc.Env → M (Fl × Bc.Env)} {e : β → D} (mk : α → J → Bc.Env) {xs : List β} (st : Nat → α) {env : Bc.Env} {ys : List D} {j : J} {g : Fl × Bc.Env → M γ} {S : γ → Sto → Prop} (hy : ys = xs.map e) (h0 : env = mk (st 0) j) (h : ∀ (i : Nat) (hi : i < xs.length) (j : J), Ret (f (e xs[i]) (mk (st i) j)) fun r => ∃ j', r = (.nx, mk (st (i + 1)) j'))
    (hr : ∀ j', Tri P (g (.nx, mk (st xs.length) j')) S) : Tri P ((forL f ys env).bind g) S := by
  subst hy h0
  exact tri_pos mk st h hr
theorem take_app {α : Type} (A : List D) (xs : List α) (g : α → D) {i : Nat} (hi : i < xs.length) : A ++ (xs.take (i + 1)).map g = A ++ (xs.take i).map g ++ [g xs[i]] := by
  rw [List.take_succ, List.getElem?_eq_getElem hi, List.map_append, List.append_assoc]
  rfl
theorem take_len {α : Type} (A : List D) (xs : List α) (g : α → D) (i : Nat) : (A ++ (xs.take i).map g).length ≤ A.length + xs.length := by
  rw [List.length_append, List.length_map, List.length_take]
  have := Nat.min_le_right i xs.length
  omega
theorem rel_no {r : Ru} {x : Str} (hx : Wd x) (hr : RuOk r ∧ r.nm = [x]) (hw : BIG ≤ w) {d : D} (hd : Cert d) (hs : spanC 1 none d = false) :
    callF pg w (k + 9) 28 [.tup [.str (Str.ofString "relation"), .tup [dR r.rl], .tup [.int 0]], d] = M.pure (.bl false) := by
  have hs1 : SameN [r] [x] := by
    refine ⟨⟨by simp, ?_, (ns_one hx).nm, ?_⟩, by simp, ?_⟩
    · intro a ha; rw [List.mem_singleton] at ha; subst ha; exact hr.1
    · intro a ha y hy; rw [List.mem_singleton] at ha; subst ha; rw [hr.2] at hy; exact hy
    · intro a ha; rw [List.mem_singleton] at ha; subst ha; exact hr.2
  have e := acc_relation (w := w) (k := k + 8) (.tup [dR r.rl]) (.tup [.int 0]) d
  refine e.trans ?_
  have e2 := s_is_relation (w := w) (k := k) hw (hs1.many (ns_one hx) hw) (by simp) (F := .tup [.int 0]) (d := d) (by decide +kernel) (by
    intro fs hf
    have : [(0 : Int)] = fs := ints_inj (xs := [0]) (ys := fs) hf
    subst this
    intro f h
    rw [List.mem_singleton] at h
    subst h
    show (0 : Int).natAbs < 2 ^ 99
    decide) hd
  rw [span_same hs1] at e2
  refine e2.trans ?_
  rw [show [x].length = 1 from rfl, hs, Bool.false_and, Bool.and_false]
theorem rel_zero {r : Ru} {x : Str} (hx : Wd x) (hr : RuOk r ∧ r.nm = [x]) (hw : BIG ≤ w) :
    callF pg w (k + 9 + 1) 28 [.tup [.str (Str.ofString "relation"), .tup [dR r.rl], .tup [.int 0]], .tup [.tup [], .tup []]] = M.pure (.bl false) :=
  rel_no (k := k + 1) hx hr hw (certB_ok (by decide +kernel)) (by decide +kernel)
theorem s_kinds {r : Ru} {x : Str} (hx : Wd x) (hr : RuOk r ∧ r.nm = [x]) (hw : BIG ≤ w) {p m : Nat} (hm : m ≤ 100000) :
    Tri (Pur p m) (callF pg w (k + 11) 66 [.loc p, dR r.rl]) fun d s => d = .bl true ∧ Pur p (m + 2) s := by
  rw [call_law_kinds_right]
  have e1 := s_paper (w := w) (k := k + 6) (ns := nums4) (e := none) (by decide) (by decide) hw
  rw [show D.lst true (dNat nums4) = .lst true [.int 0, .int 1, .int 2, .int 3] from rfl, show eD none = .non from rfl, paper4] at e1
  have hk := kinds_ok
  unfold kindsOk at hk
  have hs2 := s_draw (w := w) (k := k + 9) (p := p) (n := m + 1) (many := 2) (by decide) (by decide) (by omega)
  have hs4 := s_draw (w := w) (k := k + 9) (p := p) (n := m) (many := 4) (by decide) (by decide) (by omega)
  simp at hs2 hs4
  simp [b_law_kinds_right, need_len, toLine, e1]
  refine Tri.bindF hs4 fun d hd => ?_
  obtain ⟨t, rfl, ht⟩ := hd
  refine Tri.bindF hs2 fun d hd => ?_
  obtain ⟨u, rfl, hu⟩ := hd
  have r4 : R4[t]? = some (.tup (ss4 t)) := by
    match t, ht with
    | 0, _ => rfl
    | 1, _ => rfl
    | 2, _ => rfl
    | 3, _ => rfl
  have p4 : P4[t]? = some (.tup [.int (t : Nat)]) := by
    match t, ht with
    | 0, _ => rfl
    | 1, _ => rfl
    | 2, _ => rfl
    | 3, _ => rfl
  have s4 : (ss4 t)[u]? = some (.tup (share4 (2 * t + u))) := by
    match u, hu with
    | 0, _ => rfl
    | 1, _ => rfl
  simp [atI_ofNat, r4, p4, s4, need_len, toLine]
  have lP : P4.length = 4 := rfl
  have lR : R4.length = 4 := rfl
  have lS : (ss4 t).length = 2 := rfl
  have lH : (share4 (2 * t + u)).length = 4 := rfl
  have p1 : ∀ d, callF pg w (k + 9 + 1) 55 [.tup P4, .int 1, d] = M.pure (.tup (putL P4 1 d)) := fun d => s_put (t := 1) (by omega)
  have p0 : ∀ d, callF pg w (k + 9 + 1) 55 [.tup P4, .int 0, d] = M.pure (.tup (putL P4 0 d)) := fun d => s_put (t := 0) (by omega)
  have pR : ∀ d, callF pg w (k + 9 + 1) 55 [.tup R4, .int (t : Nat), d] = M.pure (.tup (putL R4 t d)) := fun d => s_put (by omega)
  have pP : ∀ d, callF pg w (k + 9 + 1) 55 [.tup P4, .int (t : Nat), d] = M.pure (.tup (putL P4 t d)) := fun d => s_put (by omega)
  have pS : ∀ d, callF pg w (k + 9 + 1) 55 [.tup (ss4 t), .int (u : Nat), d] = M.pure (.tup (putL (ss4 t) u d)) := fun d => s_put (by omega)
  have pH : ∀ d, callF pg w (k + 9 + 1) 55 [.tup (share4 (2 * t + u)), .int (u : Nat), d] = M.pure (.tup (putL (share4 (2 * t + u)) u d)) := fun d => s_put (by omega)
  have cR := cut_last R4
  have cS := cut_last (ss4 t)
  have cS1 : cutD (ss4 t) none (some 1) = (ss4 t).take 1 := cut_to (ss4 t) 1
  have cH := cut_to1 (share4 (2 * t + u))
  rw [lR] at cR
  rw [lS] at cS
  have addLs : ∀ (x : Bool) (a b : List D), a.length + b.length ≤ 1000 → binD .Add (.lst x a) (.lst true b) = M.pure (.lst true (a ++ b)) := fun x a b h => binD_addL (toLine (by omega))
  refine Tri.bindE (m' := M.pure some1) ?_ ?_
  · show noX (mapO _ (eachP.map fun d => d)) = _
    rw [mapO_map (g := fun e => D.tup [.tup (putL P4 1 e), .tup R4])]
    · rfl
    · intro d hd
      rw [p1, pure_bind']
  have l1 : some1.length = 8 := rfl
  rw [pure_bind', need_len (toLine (by omega)), pure_bind', p0, pure_bind', cR, addTs (by rw [List.length_drop]; omega), pure_bind', addLs _ _ _ (by rw [l1]; simp only [List.length_cons, List.length_nil]; omega), pure_bind']
  rw [show [D.tup [.tup (putL P4 0 (.tup [.bl false])), .tup R4], .tup [.tup P4, .tup (R4 ++ R4.drop (4 - 1))]] = some2 from rfl]
  have l2 : (some1 ++ some2).length = 10 := rfl
  generalize hA2 : some1 ++ some2 = A2 at *
  simp [pR, l2, need_of (show decide (10 < LINE) = true by decide)]
  rw [cS, addTs (by rw [List.length_drop]; omega), pure_bind', addTs (by simp only [List.length_cons, List.length_nil]; omega), pure_bind', cS1]
  have l3 : (A2 ++ some3 t).length = 11 := by rw [List.length_append, l2]; rfl
  refine tri_posE (e := fun d : D => d) (fun (v : List D) (j : Slot) => [.val (.loc p), .val (dR r.rl), .own v, j, .val (.tup [.str (Str.ofString "same"), dR r.rl, dR r.rl]), .val (.int (t : Nat)), .val (.int (u : Nat)), .val (.tup (ss4 t)), .val (.tup (share4 (2 * t + u))), .val (.int (t : Nat)), .val (.tup P4), .val (.tup R4), .un])
    (xs := eachR t) (fun i => (A2 ++ some3 t) ++ ((eachR t).take i).map fun e => D.tup [.tup P4, .tup (putL R4 t e)]) (j := .un) rfl ?_ ?_ ?_
  · rw [List.take_zero, List.map_nil, List.append_nil]
    rfl
  · intro i hi j
    rw [take_app _ _ _ hi]
    have hl := take_len (A2 ++ some3 t) (eachR t) (fun e => D.tup [.tup P4, .tup (putL R4 t e)]) i
    rw [l3, show (eachR t).length = 5 from rfl] at hl
    generalize (A2 ++ some3 t) ++ ((eachR t).take i).map (fun e => D.tup [.tup P4, .tup (putL R4 t e)]) = v at *
    generalize (eachR t)[i] = z at *
    have hr : need (decide (v.length < LINE)) = M.pure () := need_of (decide_eq_true (show v.length < 16777216 by omega))
    simp [pR, hr]
    exact Ret.pure ⟨_, rfl⟩
  · intro j
    rw [List.take_length, show (eachR t).map (fun e => D.tup [.tup P4, .tup (putL R4 t e)]) = some4 t from rfl]
    have l4 : (A2 ++ some3 t ++ some4 t).length = 16 := by rw [List.length_append, l3]; rfl
    generalize hA4 : A2 ++ some3 t ++ some4 t = A4 at *
    simp
    rw [addTs (by simp only [List.length_cons, List.length_nil]; omega), pure_bind', pH, pure_bind', cH]
    have l5 : (some5 t u).length = 5 := rfl
    refine tri_posE (e := fun d : D => d) (fun (v : List D) (j : Slot) => [.val (.loc p), .val (dR r.rl), .own v, j, .val (.tup [.str (Str.ofString "same"), dR r.rl, dR r.rl]), .val (.int (t : Nat)), .val (.int (u : Nat)), .val (.tup (ss4 t)), .val (.tup (share4 (2 * t + u))), .val (.int (t : Nat)), .val (.tup P4), .val (.tup R4), .un])
      (xs := eachS t u) (fun i => A4 ++ ((eachS t u).take i).map fun e => D.tup [.tup P4, .tup (putL R4 t (.tup (putL (ss4 t) u e)))]) (j := j) rfl ?_ ?_ ?_
    · rw [List.take_zero, List.map_nil, List.append_nil]
    · intro i hi j
      rw [take_app _ _ _ hi]
      have hl := take_len A4 (eachS t u) (fun e => D.tup [.tup P4, .tup (putL R4 t (.tup (putL (ss4 t) u e)))]) i
      rw [l4, show (eachS t u).length = 5 from rfl] at hl
      generalize A4 ++ ((eachS t u).take i).map (fun e => D.tup [.tup P4, .tup (putL R4 t (.tup (putL (ss4 t) u e)))]) = v at *
      generalize (eachS t u)[i] = z at *
      have hr : need (decide (v.length < LINE)) = M.pure () := need_of (decide_eq_true (show v.length < 16777216 by omega))
      simp [pR, pS, hr]
      exact Ret.pure ⟨_, rfl⟩
    · intro j
      rw [List.take_length, show (eachS t u).map (fun e => D.tup [.tup P4, .tup (putL R4 t (.tup (putL (ss4 t) u e)))]) = some5 t u from rfl]
      have l6 : (A4 ++ some5 t u).length = 21 := by rw [List.length_append, l4]; rfl
      have hA : A4 ++ some5 t u ++ some6 t = someL t u := by rw [← hA4, ← hA2]; rfl
      generalize hA5 : A4 ++ some5 t u = A5 at *
      simp [pP, need_len, toLine]
      rw [addLs _ _ _ (by rw [l6]; simp only [List.length_cons, List.length_nil]; omega), pure_bind', show [D.tup [.tup [], .tup []], .tup [.tup (putL P4 t (.tup [.int (t : Nat), .int (t : Nat)])), .tup R4]] = some6 t from rfl, hA]
      simp
      have hall := List.all_eq_true.1 (List.all_eq_true.1 (List.all_eq_true.1 hk t (List.mem_range.2 ht)) u (List.mem_range.2 hu))
      refine Tri.bindE (m' := M.pure ((someL t u).map fun _ => D.bl false)) ?_ ?_
      · show noX (mapO _ ((someL t u).map fun d => d)) = _
        rw [mapO_map (g := fun _ => D.bl false), noX_pure]
        · intro d hd
          have b := badC_ok (hall d hd)
          have e := sm_self (w := w) (k := k + 1) hx hr hw b.1
          rw [b.2] at e
          rw [e, pure_bind']
      have la : (someL t u).length = 23 := rfl
      have hany : ((someL t u).any fun _ => false) = false := by rw [List.any_eq_false]; simp
      rw [pure_bind', need_len (by rw [List.length_map, la]; exact toLine (by decide)), pure_bind', bAny_map (fun _ => false), hany, pure_bind', truM_bl, pure_bind', if_pos rfl]
      rw [rel_zero hx hr hw, pure_bind', truM_bl, pure_bind']
      exact Tri.pure fun s hs => ⟨rfl, hs⟩
end CK

set_option linter.all false
set_option autoImplicit false
set_option maxRecDepth 100000
set_option maxHeartbeats 1000000
namespace CK
open PySem PySem.Spec L2 Bc
variable {w k : Nat}
/-! ### sums that part at 3, not at 4 -/
def pN : List Nat := [0, 1, 2]
def PPt : D := .tup (pN.map fun a => dRow [a])
def RPt : List D := pN.map (rowP pN (some 3))
def ssPt (t : Nat) : List D := [2 * t, 2 * t + 1].map (shareP pN (some 3))
def rightS : List D := [.tup [.int 0, .int 1], .tup [.int (-2), .int 1], .tup [.int 3, .int 1]]
def wrongX (c : Nat) : D := .tup [.int (([0, -2, 3] : List Int)[c]?.getD 0 + 1), .int 1]
def wrongS (c : Nat) : List D := putL rightS c (wrongX c)
def cPt (t s : Nat) (d : D) : D := withL PPt RPt t s (ssPt t) d
def goodT (d : D) : Bool := certB d && (spanC 1 (some [3]) d && decide (ptsOf d = [[0], [1], [2]]))
def badT (d : D) : Bool := certB d && !spanC 1 (some [3]) d
def partsOk : Bool := (goodT (paperD pN (some 3)) && goodT (cPt 2 0 (.tup rightS))) && (((List.range 3).all fun c => badT (cPt 2 0 (.tup (wrongS c)))) && (badT (cPt 2 1 (.tup rightS)) && (badT (paperD [0, 1, 2, 4] (some 3)) && (badT (cPt 1 1 (.tup rightS)) && badT (.tup [.tup [], .tup []])))))
theorem parts_ok : partsOk = true := by decide +kernel
def partL : List Int → Int → List Int
  | [r, s, t, u], T => [r + -T, s, t + T * -2, u + T]
  | _, _ => []
theorem alike_part {a b : Ru} {T : Int} (hf : a.fs.length = 4) (hb : b.fs = partL a.fs T) (hT : T ≠ 0) : (alikeV a b [0] = true ∧ alikeV a b [1] = true ∧ alikeV a b [2] = true) ∧ alikeV a b [3] = false := by
  unfold alikeV
  rw [hb]
  generalize a.fs = fs at *
  match fs, hf with
  | [r, s, t, u], _ =>
    have e0 : worths [0] = [1, 0, 0, 1] := by decide
    have e1 : worths [1] = [1, 1, 1, 3] := by decide
    have e2 : worths [2] = [1, 2, 1, 3] := by decide
    have e3 : worths [3] = [1, 3, 2, 9] := by decide
    simp [valueL, partL, e0, e1, e2, e3]
    omega
theorem rule_get2 {ns : List Str} (hn : NsOk ns) {fs : List Int} (h4 : fs.length = 4) (hf : ∀ f ∈ fs, Lt2 f 90) {d : D} (h : Ruled ns fs d) : ∃ r : Ru, d = dR r.rl ∧ (RuOk r ∧ r.nm = ns) ∧ r.fs = fs := by
  obtain ⟨o, sc, hlay, rfl⟩ := h
  exact ⟨⟨ns, o, sc, fs⟩, rfl, ⟨⟨hn.nm, hn.l12, hlay, h4, hf⟩, rfl⟩, rfl⟩
theorem pt_good {a b : Ru} {x : Str} (h : Pr a b [x]) (hw : BIG ≤ w) (hal : (alikeV a b [0] = true ∧ alikeV a b [1] = true ∧ alikeV a b [2] = true) ∧ alikeV a b [3] = false) {d : D} (hd : goodT d = true) :
    callF pg w (k + 9) 28 [.tup [.str (Str.ofString "parting"), dR a.rl, dR b.rl, .tup [.tup [.str x, .int 3]]], d] = M.pure (.bl true) := by
  unfold goodT at hd
  rw [Bool.and_eq_true, Bool.and_eq_true] at hd
  have e := pt (w := w) (k := k) h hw (nums := [3]) rfl (by intro n hn; rw [List.mem_singleton] at hn; subst hn; decide) (certB_ok hd.1)
  refine e.trans ?_
  rw [show [x].length = 1 from rfl, hd.2.1, of_decide_eq_true hd.2.2, hal.2]
  simp [hal.1]
theorem pt_bad {a b : Ru} {x : Str} (h : Pr a b [x]) (hw : BIG ≤ w) {d : D} (hd : badT d = true) :
    callF pg w (k + 9) 28 [.tup [.str (Str.ofString "parting"), dR a.rl, dR b.rl, .tup [.tup [.str x, .int 3]]], d] = M.pure (.bl false) := by
  unfold badT at hd
  rw [Bool.and_eq_true] at hd
  have e := pt (w := w) (k := k) h hw (nums := [3]) rfl (by intro n hn; rw [List.mem_singleton] at hn; subst hn; decide) (certB_ok hd.1)
  refine e.trans ?_
  have : spanC 1 (some [3]) d = false := by simpa using hd.2
  rw [show [x].length = 1 from rfl, this, Bool.false_and, Bool.and_false]
theorem s_parting {x : Str} (hx : Wd x) (hw : BIG ≤ w) {fs : List Int} (h4 : fs.length = 4) (h5 : ∀ f ∈ fs, f ∈ factorL) {p m : Nat} (hm : m ≤ 100000) :
    Tri (Pur p m) (callF pg w (k + 11) 59 [.loc p, .str x, dInts fs]) fun d s => d = .bl true ∧ Pur p (m + 14) s := by
  rw [call_law_parting_right]
  have hns := ns_one hx
  have hk := parts_ok
  unfold partsOk at hk
  rw [Bool.and_eq_true, Bool.and_eq_true, Bool.and_eq_true, Bool.and_eq_true, Bool.and_eq_true, Bool.and_eq_true] at hk
  obtain ⟨⟨g1, g2⟩, b1, b2, b3, b4, b5⟩ := hk
  have e1 := s_paper (w := w) (k := k + 6) (ns := pN) (e := some 3) (by decide) (by decide) hw
  rw [show D.lst true (dNat pN) = .lst true [.int 0, .int 1, .int 2] from rfl, show eD (some 3) = .int 3 from rfl] at e1
  have e2 := s_paper (w := w) (k := k + 6) (ns := [0, 1, 2, 4]) (e := some 3) (by decide) (by decide) hw
  rw [show D.lst true (dNat [0, 1, 2, 4]) = .lst true [.int 0, .int 1, .int 2, .int 4] from rfl, show eD (some 3) = .int 3 from rfl] at e2
  have g9 : binD .Pow (.int 10) (.int 9) = M.pure (.int 1000000000) := by kernel_rfl
  simp [b_law_parting_right, need_len, toLine, g9]
  refine Tri.bindF (s_one_of (p := p) (n := m) (by simp) (by simp) (by omega)) fun d hd => ?_
  have hT : ∃ T : Int, d = .int T ∧ T ≠ 0 ∧ Lt2 T 40 := by
    simp only [List.mem_cons, List.not_mem_nil, or_false] at hd
    rcases hd with rfl | rfl | rfl | rfl
    · exact ⟨1, rfl, by decide, by show Int.natAbs 1 < 2 ^ 40; decide⟩
    · exact ⟨-1, rfl, by decide, by show Int.natAbs (-1) < 2 ^ 40; decide⟩
    · exact ⟨4, rfl, by decide, by show Int.natAbs 4 < 2 ^ 40; decide⟩
    · exact ⟨1000000000, rfl, by decide, by show Int.natAbs 1000000000 < 2 ^ 40; decide⟩
  obtain ⟨T, rfl, hT0, hT40⟩ := hT
  have hal2 : ∀ f ∈ fs, Lt2 f 80 := fun f hf => (factorL_lt (h5 f hf)).mono (by decide)
  match fs, h4, h5, hal2 with
  | [r, s, t, u], h4, h5, hal2 =>
    have hm1 : ∀ z : Int, Lt2 z 5 → binD .Mult (.int T) (.int z) = M.pure (.int (T * z)) := fun z hz => binD_mul (mulL hT40 hz (by decide))
    have m1 := hm1 (-1) (by show Int.natAbs (-1) < 2 ^ 5; decide)
    have m2 := hm1 0 (by show Int.natAbs 0 < 2 ^ 5; decide)
    have m3 := hm1 (-2) (by show Int.natAbs (-2) < 2 ^ 5; decide)
    have m4 := hm1 1 (by show Int.natAbs 1 < 2 ^ 5; decide)
    simp [dInts, mapO_cons1, mapO_nil, m1, m2, m3, m4, need_len, toLine]
    refine Tri.bindF (s_rule (p := p) (n := m + 1) (k := k + 7) (nm := [x]) (fb := true) (fs := [r, s, t, u]) (by omega) hns.l12 h4 (fun f hf => (hal2 f hf).mono (by decide)) hw) fun d hd => ?_
    obtain ⟨a, rfl, ha, hfa⟩ := rule_get2 hns h4 (fun f hf => (hal2 f hf).mono (by decide)) hd
    have hg5 : ∀ f ∈ partL [r, s, t, u] T, Lt2 f 90 := by
      have hr := hal2 r (by simp)
      have hs := hal2 s (by simp)
      have ht := hal2 t (by simp)
      have hu := hal2 u (by simp)
      unfold Lt2 at hr hs ht hu hT40
      intro f hf
      simp only [partL, List.mem_cons, List.not_mem_nil, or_false] at hf
      unfold Lt2
      rcases hf with rfl | rfl | rfl | rfl <;> omega
    refine Tri.bindF (s_rule (p := p) (n := m + 1 + 6) (k := k + 7) (nm := [x]) (fb := true) (fs := partL [r, s, t, u] T) (by omega) hns.l12 rfl hg5 hw) fun d hd => ?_
    obtain ⟨b, rfl, hb, hfb⟩ := rule_get2 hns rfl hg5 hd
    have hpr : Pr a b [x] := ⟨hns, ha, hb⟩
    have hal := alike_part (a := a) (b := b) (T := T) (by rw [hfa]; rfl) (by rw [hfb, hfa]) hT0
    have hs3 := s_draw (w := w) (k := k + 9) (p := p) (n := m + 1 + 6 + 6) (many := 3) (by decide) (by decide) (by omega)
    rw [e1, pure_bind']
    refine Tri.bindF hs3 fun d hd => ?_
    obtain ⟨c, rfl, hc⟩ := hd
    have q1 : subD (.tup [.tup [.int 0, .int 1], .tup [.int (-2), .int 1], .tup [.int 3, .int 1]]) (.int (c : Nat)) = M.pure (.tup [.int (([0, -2, 3] : List Int)[c]?.getD 0), .int 1]) := by
      match c, hc with
      | 0, _ => rfl
      | 1, _ => rfl
      | 2, _ => rfl
    have q2 : subD (.tup [.int (([0, -2, 3] : List Int)[c]?.getD 0), .int 1]) (.int 0) = M.pure (.int (([0, -2, 3] : List Int)[c]?.getD 0)) := rfl
    have q3 : callF pg w (k + 9 + 1) 55 [.tup [.tup [.int 0, .int 1], .tup [.int (-2), .int 1], .tup [.int 3, .int 1]], .int (c : Nat), .tup [.int (([0, -2, 3] : List Int)[c]?.getD 0 + 1), .int 1]] = M.pure (.tup (wrongS c)) := s_put (xs := rightS) (t := c) (d := wrongX c) (by decide)
    have w20 : ∀ d, callF pg w (k + 8 + 2) 57 [paperD pN (some 3), .int 2, .int 0, d] = M.pure (cPt 2 0 d) := fun d => s_with_share (P := PPt) (R := RPt) (ss := ssPt 2) (t := 2) (s := 0) (by decide) (Nat.le_of_ble_eq_true rfl) rfl
    have w21 : ∀ d, callF pg w (k + 8 + 2) 57 [paperD pN (some 3), .int 2, .int 1, d] = M.pure (cPt 2 1 d) := fun d => s_with_share (P := PPt) (R := RPt) (ss := ssPt 2) (t := 2) (s := 1) (by decide) (Nat.le_of_ble_eq_true rfl) rfl
    have w11 : ∀ d, callF pg w (k + 8 + 2) 57 [paperD pN (some 3), .int 1, .int 1, d] = M.pure (cPt 1 1 d) := fun d => s_with_share (P := PPt) (R := RPt) (ss := ssPt 1) (t := 1) (s := 1) (by decide) (Nat.le_of_ble_eq_true rfl) rfl
    have a1 := pt_good (w := w) (k := k + 1) hpr hw hal g1
    have a2 := pt_good (w := w) (k := k + 1) hpr hw hal g2
    have a3 := pt_bad (w := w) (k := k + 1) hpr hw (List.all_eq_true.1 b1 c (List.mem_range.2 hc))
    have a4 := pt_bad (w := w) (k := k + 1) hpr hw b2
    have a5 := pt_bad (w := w) (k := k + 1) hpr hw b3
    have a6 := pt_bad (w := w) (k := k + 1) hpr hw b4
    have a7 := pt_bad (w := w) (k := k + 1) hpr hw b5
    rw [q1, pure_bind', q2, pure_bind', binD_add, pure_bind', q3, pure_bind', a1, pure_bind', w20, pure_bind', show [D.tup [.int 0, .int 1], .tup [.int (-2), .int 1], .tup [.int 3, .int 1]] = rightS from rfl, a2, pure_bind', w20, pure_bind', a3, pure_bind']
    rw [binD_addL (toLine (by simp)), pure_bind', w21, pure_bind', a4, pure_bind', e2, pure_bind', a5, pure_bind', binD_addL (toLine (by simp)), pure_bind', w11, pure_bind', a6, pure_bind', a7, pure_bind', binD_addL (toLine (by simp)), pure_bind']
    refine Tri.eq (m' := M.pure (.bl true)) (by kernel_rfl) ?_
    exact Tri.pure fun s hs => ⟨rfl, hs⟩
end CK

set_option linter.all false
set_option autoImplicit false
set_option maxRecDepth 100000
set_option maxHeartbeats 1000000
namespace CK
open PySem PySem.Spec L2 Bc
variable {w k : Nat}
/-! ### rules of integers over one name -/
def ratV (xs : List Int) : List Rat := xs.map fun i : Int => (i : Rat)
def dotI (xs ys : List Int) : Int := (xs.zip ys).foldl (fun q p => q + p.1 * p.2) 0
theorem fold_cast : ∀ (ps : List (Int × Int)) (q : Int), (ps.map fun p : Int × Int => ((p.1 : Rat), (p.2 : Rat))).foldl (fun q p => q + p.1 * p.2) (q : Rat) = ((ps.foldl (fun q p => q + p.1 * p.2) q : Int) : Rat)
  | [], _ => rfl
  | p :: ps, q => by
    rw [List.map_cons, List.foldl_cons, List.foldl_cons, ← fold_cast ps]
    congr 1
    rw [Rat.intCast_add, Rat.intCast_mul]
theorem dot_int (xs ys : List Int) : dot (ratV xs) (ratV ys) = ((dotI xs ys : Int) : Rat) := by
  unfold dot dotP ratV dotI
  rw [List.zip_map]
  exact fold_cast (xs.zip ys) 0
structure Ir where
  x : Str
  A : Nat → List (List Int)
  F : List Int
  T : List Int
  f : Nat → List Int
def Ir.rl (r : Ir) : Rl := ⟨[r.x], [(r.A 0).map ratV, (r.A 1).map ratV], r.F, ratV r.T⟩
def Ir.g (r : Ir) (x : List Nat) : List Rat := ratV (r.f ((x[0]?).getD 0))
def Ir.rf (r : Ir) : RF := (r.rl, r.g)
structure IrOk (r : Ir) : Prop where
  wd : Wd r.x
  m3 : r.F.length ≤ 3
  rows : ∀ e, e < 2 → (r.A e).length = r.F.length ∧ ∀ row ∈ r.A e, row.length = r.F.length ∧ ∀ i ∈ row, Lt2 i 3
  tl : r.T.length = r.F.length
  ts : ∀ i ∈ r.T, Lt2 i 90
  fl : ∀ n, (r.f n).length = r.F.length
  f0 : r.f 0 = r.F
  fs : ∀ n e, e < 2 → r.f (2 * n + e) = (r.A e).map fun row => dotI row (r.f n)
  fb : ∀ N n, n < 2 ^ N → ∀ i ∈ r.f n, Lt2 i (2 * N + 2)
theorem fine_int {xs ys : List Int} {a b : Nat} (hx : ∀ i ∈ xs, Lt2 i a) (hy : ∀ i ∈ ys, Lt2 i b) (h3 : xs.length ≤ 3) (ha : 1 ≤ a) (hb : 3 * a + b ≤ 1400) : FineP ((ratV xs).zip (ratV ys)) := by
  refine fineP_of (a := a) (b := b) ?_ ?_ (by omega)
  · intro p hp
    obtain ⟨h1, h2⟩ := List.of_mem_zip (a := p.1) (b := p.2) hp
    unfold ratV at h1 h2
    rw [List.mem_map] at h1 h2
    obtain ⟨i, hi, e1⟩ := h1
    obtain ⟨j, hj, e2⟩ := h2
    refine ⟨?_, ?_, ?_, ?_⟩
    · rw [← e1]
      show 1 < 2 ^ a
      exact Nat.one_lt_two_pow (by omega)
    · rw [← e1]; exact hx i hi
    · rw [← e2]; rfl
    · rw [← e2]; exact hy j hj
  · have hl : ((ratV xs).zip (ratV ys)).length ≤ 3 := by
      rw [List.length_zip]
      refine Nat.le_trans (Nat.min_le_left ..) ?_
      unfold ratV
      rw [List.length_map]
      exact h3
    have := Nat.mul_le_mul_left a hl
    omega
theorem IrOk.side {r : Ir} (h : IrOk r) {e : Nat} (he : e < 2) {n : Nat} (hn : n < 2 ^ NB) : ∀ rs ∈ (r.A e).map ratV, FineP (rs.zip (ratV (r.f n))) := by
  intro rs hrs
  rw [List.mem_map] at hrs
  obtain ⟨row, hrow, rfl⟩ := hrs
  have hr := (h.rows e he).2 row hrow
  refine fine_int hr.2 (h.fb NB n hn) (by rw [hr.1]; exact h.m3) (by decide) (by unfold NB; decide)
theorem IrOk.step {r : Ir} (h : IrOk r) {e : Nat} (he : e < 2) (n : Nat) : ratV (r.f (2 * n + e)) = ((r.A e).map ratV).map fun rs => dot rs (ratV (r.f n)) := by
  rw [h.fs n e he]
  unfold ratV
  rw [List.map_map, List.map_map]
  refine List.map_congr_left fun row _ => ?_
  exact (dot_int row (r.f n)).symm
theorem IrOk.tells {r : Ir} (h : IrOk r) : Tells r.rl r.g NB := by
  have hF : r.rl.F = r.F := rfl
  refine ⟨(ns_one h.wd).nm, rfl, ⟨by rw [hF]; have := h.m3; omega, ?_⟩, ?_, ?_, ?_⟩
  · intro M0 hM
    have hM : M0 ∈ [(r.A 0).map ratV, (r.A 1).map ratV] := hM
    have h3 := h.m3
    simp only [List.mem_cons, List.not_mem_nil, or_false] at hM
    rcases hM with rfl | rfl
    · rw [List.length_map, (h.rows 0 (by decide)).1]; omega
    · rw [List.length_map, (h.rows 1 (by decide)).1]; omega
  · show ratV (r.f 0) = _
    rw [h.f0]
    rfl
  · intro x e hx he hn h1
    match x, e, hx, he with
    | [n], [d], _, _ =>
      have hd : d < 2 := by have := h1 d (by simp); omega
      have hs : sideOf r.rl [d] = (r.A d).map ratV := by
        match d, hd with
        | 0, _ => rfl
        | 1, _ => rfl
      rw [hs]
      exact ⟨h.side hd (hn n (by simp)), h.step hd n⟩
  · intro x hx hn
    match x, hx with
    | [n], _ => exact fine_int h.ts (h.fb NB n (hn n (by simp))) (by rw [h.tl]; exact h.m3) (by decide) (by unfold NB; decide)
theorem mem_two {α : Type} {x a b : α} (h : x ∈ [a, b]) : x = a ∨ x = b := by simpa using h
theorem ratV_len (xs : List Int) : (ratV xs).length = xs.length := List.length_map ..
theorem IrOk.shp {r : Ir} (h : IrOk r) : Shp r.rl := by
  have h3 := h.m3
  refine ⟨(ns_one h.wd).nm, rfl, by show r.F.length ≤ 100; omega, ?_, ?_⟩
  · intro M0 hM
    have key : ∀ e, e < 2 → ((r.A e).map ratV).length = r.F.length ∧ ∀ rs ∈ (r.A e).map ratV, rs.length = r.F.length := fun e he => by
      refine ⟨by rw [List.length_map, (h.rows e he).1], fun rs hrs => ?_⟩
      rw [List.mem_map] at hrs
      obtain ⟨row, hrow, rfl⟩ := hrs
      rw [ratV_len, ((h.rows e he).2 row hrow).1]
    rcases mem_two hM with rfl | rfl
    · exact key 0 (by decide)
    · exact key 1 (by decide)
  · show (ratV r.T).length = r.F.length
    rw [ratV_len, h.tl]
theorem IrOk.flt {r : Ir} (h : IrOk r) : ∀ i ∈ r.F, Lt2 i 2 := by
  have := h.fb 0 0 (by decide)
  rw [h.f0] at this
  exact this
theorem plain_ratV {xs : List Int} {n : Nat} (h : ∀ i ∈ xs, Lt2 i n) (h1 : 1 ≤ n) (hn : n ≤ 5000) : plain (dVec (ratV xs)) = true := by
  refine plain_dVec (n := n) (fun q hq => ?_) hn
  unfold ratV at hq
  rw [List.mem_map] at hq
  obtain ⟨i, hi, rfl⟩ := hq
  exact ⟨h i hi, Nat.one_lt_two_pow (by omega)⟩
theorem IrOk.plain {r : Ir} (h : IrOk r) : plain (dR r.rl) = true := by
  have hs : ∀ e, e < 2 → CK.plain (dSide ((r.A e).map ratV)) = true := fun e he => by
    unfold dSide
    rw [List.map_map]
    exact plain_tupm fun row hrow => plain_ratV (n := 3) ((h.rows e he).2 row hrow).2 (by decide) (by decide)
  have h1 : CK.plain (.tup (r.F.map .int)) = true := plain_tupm fun i hi => plain_int' (h.flt i hi) (by decide)
  have h2 : CK.plain (dVec (ratV r.T)) = true := plain_ratV (n := 90) h.ts (by decide) (by decide)
  have h0 : CK.plain (dN [r.x]) = true := (ns_one h.wd).nm.plain
  show CK.plain (.tup [dN [r.x], .tup [dSide ((r.A 0).map ratV), dSide ((r.A 1).map ratV)], .tup (r.F.map .int), dVec (ratV r.T)]) = true
  simp only [plain_tup', plains_cons', plains_nil', Bool.and_true, Bool.and_eq_true] at *
  exact ⟨h0, ⟨hs 0 (by decide), hs 1 (by decide)⟩, h1, h2⟩
theorem IrOk.is {r : Ir} (h : IrOk r) (hw : BIG ≤ w) : RuleIs w (dR r.rl) true := by
  intro k
  have hf : firstsQ r.rl = ratV (r.f 0) := by rw [h.f0]; rfl
  have := s_rule_yes (w := w) (k := k) h.shp h.plain hw (M0 := (r.A 0).map ratV) rfl (by
    rw [hf]
    exact h.side (by decide) (Nat.pow_pos (by decide)))
  rw [this, hf, ← h.step (by decide) 0, decide_eq_true rfl]
theorem own_ir {r : Ir} {x : Str} (hx : r.x = x) (nums : List Nat) : r.g (ownN r.rl [x] nums) = ratV (r.f ((nums[0]?).getD 0)) := by
  subst hx
  show ratV (r.f ((([r.x].map fun y => (nums[[r.x].idxOf y]?).getD 0)[0]?).getD 0)) = _
  simp
end CK

set_option linter.all false
set_option autoImplicit false
set_option maxRecDepth 100000
set_option maxHeartbeats 1000000
namespace CK
open PySem PySem.Spec L2 Bc
variable {w k : Nat}
structure Irs (rs : List Ir) (x : Str) : Prop where
  wd : Wd x
  some : rs ≠ []
  few : rs.length ≤ 2
  each : ∀ r ∈ rs, IrOk r ∧ r.x = x
def lenI (rs : List Ir) : Nat := (rs.map fun r => r.F.length).sum
theorem all_ir {rs : List Ir} {x : Str} (h : ∀ r ∈ rs, r.x = x) (nums : List Nat) : allAt (rs.map Ir.rf) [x] nums = (rs.map fun r => ratV (r.f ((nums[0]?).getD 0))).flatten := by
  unfold allAt
  rw [List.map_map]
  congr 1
  exact List.map_congr_left fun r hr => own_ir (h r hr) nums
theorem Irs.lens {rs : List Ir} {x : Str} (h : Irs rs x) (nums : List Nat) : (allAt (rs.map Ir.rf) [x] nums).length = lenI rs := by
  rw [all_ir fun r hr => (h.each r hr).2, List.length_flatten, List.map_map]
  unfold lenI
  congr 1
  refine List.map_congr_left fun r hr => ?_
  show (ratV _).length = _
  rw [ratV_len, (h.each r hr).1.fl]
theorem Irs.len6 {rs : List Ir} {x : Str} (h : Irs rs x) : lenI rs ≤ 6 := by
  have : lenI rs ≤ 3 * rs.length := sum_le fun r hr => (h.each r hr).1.m3
  have := h.few
  omega
theorem Irs.cx {rs : List Ir} {x : Str} (h : Irs rs x) (e : Option (List Nat)) : CxOk ⟨[x], rs.map Ir.rf, e⟩ NB (lenI rs) := by
  have h6 := h.len6
  refine ⟨⟨(ns_one h.wd).nm, ?_, fun nums => ?_, by decide⟩, by decide, fun nums _ _ => h.lens nums, ?_, ?_⟩
  · intro r hr
    have hr : r ∈ rs.map Ir.rf := hr
    rw [List.mem_map] at hr
    obtain ⟨u, hu, rfl⟩ := hr
    refine ⟨(h.each u hu).1.tells, fun y hy => ?_⟩
    have hy : y ∈ [u.x] := hy
    rw [(h.each u hu).2] at hy
    exact hy
  · show (allAt (rs.map Ir.rf) [x] nums).length ≤ 1000
    rw [h.lens]
    omega
  · show ((rs.map Ir.rf).map fun r => r.1.F.length).sum ≤ 1000
    rw [List.map_map]
    have : (rs.map ((fun r : RF => r.1.F.length) ∘ Ir.rf)).sum = lenI rs := rfl
    omega
  · intro nums hx hn v hv
    have hv : v ∈ allAt (rs.map Ir.rf) [x] nums := hv
    rw [all_ir fun r hr => (h.each r hr).2, List.mem_flatten] at hv
    obtain ⟨l, hl, hv⟩ := hv
    rw [List.mem_map] at hl
    obtain ⟨r, hr, rfl⟩ := hl
    unfold ratV at hv
    rw [List.mem_map] at hv
    obtain ⟨i, hi, rfl⟩ := hv
    refine ⟨rfl, ?_⟩
    have hx : nums.length = 1 := hx
    match nums, hx with
    | [n], _ => exact (show Lt2 i 210 from ((h.each r hr).1.fb 102 n (hn n (by simp)) i hi).mono (by decide))
theorem Irs.good {rs : List Ir} {x : Str} (h : Irs rs x) (hw : BIG ≤ w) : GoodRs w ((rs.map Ir.rf).map fun r => r.1) := by
  refine ⟨by rw [List.length_map, List.length_map]; have := h.few; omega, ?_, ?_⟩
  · intro r hr
    rw [List.map_map, List.mem_map] at hr
    obtain ⟨u, hu, rfl⟩ := hr
    exact (h.each u hu).1.is hw
  · intro r hr
    rw [List.map_map, List.mem_map] at hr
    obtain ⟨u, hu, rfl⟩ := hr
    exact (h.each u hu).1.tells.nms
theorem Irs.names {rs : List Ir} {x : Str} (h : Irs rs x) : sortS (joinN ((rs.map Ir.rf).map fun r => r.1.nm)) = [x] := by
  rw [List.map_map, join_same (ns := [x]) (by simpa using h.some) (by
    intro l hl
    rw [List.mem_map] at hl
    obtain ⟨r, hr, rfl⟩ := hl
    show [r.x] = [x]
    rw [(h.each r hr).2])]
  exact (ns_one h.wd).srt
theorem Irs.two {a b : Ir} {x : Str} (h : Irs [a, b] x) (hw : BIG ≤ w) : Two w a.rf b.rf [x] NB (lenI [a, b]) :=
  ⟨h.good hw, h.names, by simp, h.cx⟩
theorem val_ir {r : Ir} {x : Str} (hx : r.x = x) (nums : List Nat) : valAt r.rl r.g [x] nums = ((dotI r.T (r.f ((nums[0]?).getD 0)) : Int) : Rat) := by
  unfold valAt
  rw [own_ir hx]
  exact dot_int r.T _
def alikeI (a b : Ir) (p : List Nat) : Bool := decide (dotI a.T (a.f ((p[0]?).getD 0)) = dotI b.T (b.f ((p[0]?).getD 0)))
theorem alike_ir {a b : Ir} {x : Str} (ha : a.x = x) (hb : b.x = x) (p : List Nat) : alikeQ a.rf b.rf [x] p = alikeI a b p := by
  unfold alikeQ alikeI
  have e1 : valAt a.rf.1 a.rf.2 [x] p = ((dotI a.T (a.f ((p[0]?).getD 0)) : Int) : Rat) := val_ir ha p
  have e2 : valAt b.rf.1 b.rf.2 [x] p = ((dotI b.T (b.f ((p[0]?).getD 0)) : Int) : Rat) := val_ir hb p
  rw [e1, e2, decide_eq_decide]
  exact ⟨fun e => by exact_mod_cast e, fun e => by rw [e]⟩
/-- a span by lines alone -/
theorem spanB_congr {c c' : Cx} (hn : c.ns.length = c'.ns.length) (he : c.e = c'.e) (ha : ∀ nums, allAt c.rs c.ns nums = allAt c'.rs c'.ns nums) (hF : (c.rs.map fun r => r.1.F) = c'.rs.map fun r => r.1.F) (d : D) : spanB c d = spanB c' d := by
  have ha : allAt c.rs c.ns = allAt c'.rs c'.ns := funext ha
  have hb : ∀ (rs : List RF), (rs.map fun r => r.1).all (fun r => r.F.all fun i => decide (i = 0)) = (rs.map fun r => r.1.F).all fun F => F.all fun i => decide (i = 0) := fun rs => by
    rw [List.all_map, List.all_map]; rfl
  have h1 : ∀ ps, endsB c ps = endsB c' ps := fun ps => by unfold endsB; rw [he]
  have h2 : zerosOf c = zerosOf c' := by unfold zerosOf; rw [hn]
  have h3 : ∀ ps z, beginB ps (c.rs.map fun r => r.1) z c.e = beginB ps (c'.rs.map fun r => r.1) z c'.e := fun ps z => by
    unfold beginB
    rw [hb, hb, hF, he]
  have h4 : ∀ ps t d, shareB c ps t d = shareB c' ps t d := fun ps t d => by
    unfold shareB colsOf
    rw [he, ha]
  have h5 : ∀ ps x d, rowB c ps x d = rowB c' ps x d := fun ps x d => by
    cases d <;> first | rfl | (simp only [rowB, h4, hn])
  have h6 : ∀ ps R, restB c ps R = restB c' ps R := fun ps R => by
    unfold restB
    rw [h1, h2, h3]
    cases R <;> simp only [h5]
  cases d with
  | tup xs => match xs with
    | [P, R] =>
     show (isPts c.ns.length P && (match asPts P with
        | some ps => restB c ps R
        | none => false)) = (isPts c'.ns.length P && (match asPts P with
        | some ps => restB c' ps R
        | none => false))
     rw [hn]
     simp only [h6]
    | [] => rfl
    | [_] => rfl
    | _ :: _ :: _ :: _ => rfl
  | _ => rfl
/-- the lines of rules, under a name of its own -/
def stdI (r : Ir) : Ir := ⟨"a", r.A, r.F, [], r.f⟩
def spanI (rs : List Ir) (e : Option (List Nat)) (d : D) : Bool := spanB ⟨["a"], rs.map fun r => (stdI r).rf, e⟩ d
theorem span_ir {rs : List Ir} {x : Str} (h : ∀ r ∈ rs, r.x = x) (e : Option (List Nat)) (d : D) : spanB ⟨[x], rs.map Ir.rf, e⟩ d = spanI rs e d := by
  unfold spanI
  refine spanB_congr (c := ⟨[x], rs.map Ir.rf, e⟩) (c' := ⟨["a"], rs.map fun r => (stdI r).rf, e⟩) rfl rfl (fun nums => ?_) ?_ d
  · show allAt (rs.map Ir.rf) [x] nums = allAt (rs.map fun r => (stdI r).rf) ["a"] nums
    have := all_ir (rs := rs.map stdI) (x := "a") (by
      intro r hr
      rw [List.mem_map] at hr
      obtain ⟨u, _, rfl⟩ := hr
      rfl) nums
    rw [List.map_map, List.map_map] at this
    rw [all_ir h]
    exact this.symm
  · show ((rs.map Ir.rf).map fun r : RF => r.1.F) = ((rs.map fun r => (stdI r).rf).map fun r : RF => r.1.F)
    rw [List.map_map, List.map_map]
    rfl
theorem ir_same {a b : Ir} {x : Str} (h : Irs [a, b] x) (hw : BIG ≤ w) {d : D} (hd : Cert d) :
    callF pg w (k + 9) 28 [.tup [.str (Str.ofString "same"), dR a.rl, dR b.rl], d] = M.pure (.bl (spanI [a, b] none d && (ptsOf d).all (alikeI a b))) := by
  have e := acc_same (w := w) (k := k + 8) (dR a.rl) (dR b.rl) d
  refine e.trans ?_
  have e2 := so_same (w := w) (k := k) hw (h.two hw) hd
  refine e2.trans ?_
  have ha := (h.each a (by simp)).2
  have hb := (h.each b (by simp)).2
  rw [← span_ir (rs := [a, b]) (fun r hr => (h.each r hr).2), show alikeQ a.rf b.rf [x] = alikeI a b from funext fun p => alike_ir ha hb p]
  rfl
theorem ir_part {a b : Ir} {x : Str} (h : Irs [a, b] x) (hw : BIG ≤ w) {d : D} (hd : Cert d) :
    callF pg w (k + 9) 28 [.tup [.str (Str.ofString "parting"), dR a.rl, dR b.rl, .tup [.tup [.str x, .int 3]]], d] = M.pure (.bl (!alikeI a b [3] && (spanI [a, b] (some [3]) d && (ptsOf d).all (alikeI a b)))) := by
  have e := acc_parting (w := w) (k := k + 8) (dR a.rl) (dR b.rl) (.tup [.tup [.str x, .int 3]]) d
  refine e.trans ?_
  have hg : ∀ n ∈ [3], n < 2 ^ NB := by intro n hn; rw [List.mem_singleton] at hn; subst hn; decide
  have e2 := so_parting (w := w) (k := k) (nums := [3]) hw (h.two hw) rfl hg (plain_row (ns_one h.wd).nm hg) hd
  refine e2.trans ?_
  have ha := (h.each a (by simp)).2
  have hb := (h.each b (by simp)).2
  rw [← span_ir (rs := [a, b]) (fun r hr => (h.each r hr).2), show alikeQ a.rf b.rf [x] = alikeI a b from funext fun p => alike_ir ha hb p]
  rfl
end CK

set_option linter.all false
set_option autoImplicit false
set_option maxRecDepth 100000
set_option maxHeartbeats 1000000
namespace CK
open PySem PySem.Spec L2 Bc
variable {w k : Nat}
def slowI (x : Str) (T : List Int) : Ir := ⟨x, fun e => if e = 0 then [[1, 0, 0], [0, 1, 0], [0, 0, 1]] else [[1, 0, 0], [1, 1, 0], [0, 0, 3]], [1, 0, 1], T, fun n => [1, (ones n : Nat), ((3 ^ ones n : Nat) : Int)]⟩
def flatI (x : Str) (t : Int) : Ir := ⟨x, fun _ => [[1]], [1], [t], fun _ => [1]⟩
def oneI (x : Str) (t : Int) : Ir := ⟨x, fun e => if e = 0 then [[1]] else [[0]], [1], [t], fun n => [if n = 0 then 1 else 0]⟩
def nilI (x : Str) : Ir := ⟨x, fun _ => [], [], [], fun _ => []⟩
def selfI (x : Str) : Ir := ⟨x, fun e => if e = 0 then [[2, 0], [0, 1]] else [[2, 1], [0, 1]], [0, 1], [1, 0], fun n => [(n : Nat), 1]⟩
theorem lt2_of {i : Int} {n : Nat} (h : i.natAbs < 2 ^ n) : Lt2 i n := h
theorem small01 {i : Int} (h : i = 0 ∨ i = 1) (n : Nat) (hn : 1 ≤ n) : Lt2 i n := by
  have : 1 < 2 ^ n := Nat.one_lt_two_pow (by omega)
  show i.natAbs < 2 ^ n
  rcases h with rfl | rfl
  · exact Nat.pow_pos (by decide)
  · exact this
def rowsOkB (m : Nat) (A : List (List Int)) : Bool := decide (A.length = m) && A.all fun row => decide (row.length = m) && row.all fun i => decide (i.natAbs < 2 ^ 3)
theorem rows_ok {m : Nat} {A : List (List Int)} (h : rowsOkB m A = true) : A.length = m ∧ ∀ row ∈ A, row.length = m ∧ ∀ i ∈ row, Lt2 i 3 := by
  unfold rowsOkB at h
  rw [Bool.and_eq_true] at h
  refine ⟨of_decide_eq_true h.1, fun row hrow => ?_⟩
  have := List.all_eq_true.1 h.2 row hrow
  rw [Bool.and_eq_true] at this
  exact ⟨of_decide_eq_true this.1, fun i hi => of_decide_eq_true (p := i.natAbs < 2 ^ 3) (List.all_eq_true.1 this.2 i hi)⟩
theorem two_of {P : Nat → Prop} (h0 : P 0) (h1 : P 1) : ∀ e, e < 2 → P e := by
  intro e he
  match e, he with
  | 0, _ => exact h0
  | 1, _ => exact h1
theorem slow_ok {x : Str} (hx : Wd x) {T : List Int} (h3 : T.length = 3) (hT : ∀ i ∈ T, Lt2 i 90) : IrOk (slowI x T) := by
  refine ⟨hx, Nat.le_of_ble_eq_true rfl, two_of (rows_ok rfl) (rows_ok rfl), h3, hT, fun n => rfl, rfl, ?_, ?_⟩
  · intro n e he
    have ho := ones_dbl n e (by omega)
    show [(1 : Int), (ones (2 * n + e) : Nat), ((3 ^ ones (2 * n + e) : Nat) : Int)] = _
    rw [ho]
    match e, he with
    | 0, _ =>
      simp [slowI, dotI]
    | 1, _ =>
      have : (3 : Int) ^ (ones n + 1) = 3 * 3 ^ ones n := by rw [Int.pow_succ, Int.mul_comm]
      simp [slowI, dotI, this]
      omega
  · intro N n hn i hi
    have h1 := ones_le N n hn
    have h2 := pow3_lt (ones n)
    have h4 : 2 ^ (2 * ones n + 1) ≤ 2 ^ (2 * N + 2) := Nat.pow_le_pow_right (by decide) (by omega)
    have h5 : ones n < 2 ^ (2 * N + 2) := Nat.lt_of_le_of_lt h1 (Nat.lt_of_lt_of_le Nat.lt_two_pow_self (Nat.pow_le_pow_right (by decide) (by omega)))
    have hi : i ∈ [(1 : Int), (ones n : Nat), ((3 ^ ones n : Nat) : Int)] := hi
    simp only [List.mem_cons, List.not_mem_nil, or_false] at hi
    rcases hi with rfl | rfl | rfl
    · exact small01 (.inr rfl) _ (by omega)
    · exact lt2_nat h5
    · exact lt2_nat (by omega)
theorem flat_ok {x : Str} (hx : Wd x) {t : Int} (ht : Lt2 t 90) : IrOk (flatI x t) := by
  refine ⟨hx, Nat.le_of_ble_eq_true rfl, two_of (rows_ok rfl) (rows_ok rfl), rfl, ?_, fun n => rfl, rfl, ?_, ?_⟩
  · intro i hi; have hi : i ∈ [t] := hi; rw [List.mem_singleton] at hi; subst hi; exact ht
  · intro n e he; rfl
  · intro N n hn i hi; have hi : i ∈ [(1 : Int)] := hi; rw [List.mem_singleton] at hi; subst hi; exact small01 (.inr rfl) _ (by omega)
theorem one_ok {x : Str} (hx : Wd x) {t : Int} (ht : Lt2 t 90) : IrOk (oneI x t) := by
  refine ⟨hx, Nat.le_of_ble_eq_true rfl, two_of (rows_ok rfl) (rows_ok rfl), rfl, ?_, fun n => rfl, rfl, ?_, ?_⟩
  · intro i hi; have hi : i ∈ [t] := hi; rw [List.mem_singleton] at hi; subst hi; exact ht
  · intro n e he
    match e, he with
    | 0, _ =>
      by_cases h0 : n = 0
      · subst h0; rfl
      · have h2 : ¬ 2 * n + 0 = 0 := by omega
        simp [oneI, dotI, h0]
        omega
    | 1, _ =>
      have h2 : ¬ 2 * n + 1 = 0 := by omega
      simp [oneI, dotI]
  · intro N n hn i hi
    have hi : i ∈ [if n = 0 then (1 : Int) else 0] := hi
    rw [List.mem_singleton] at hi
    refine small01 ?_ _ (by omega)
    by_cases h0 : n = 0
    · rw [if_pos h0] at hi; exact .inr hi
    · rw [if_neg h0] at hi; exact .inl hi
theorem nil_ok {x : Str} (hx : Wd x) : IrOk (nilI x) := by
  refine ⟨hx, Nat.le_of_ble_eq_true rfl, two_of (rows_ok rfl) (rows_ok rfl), rfl, ?_, fun n => rfl, rfl, fun _ _ _ => rfl, ?_⟩
  · intro i hi; cases hi
  · intro N n hn i hi; cases hi
theorem self_ok {x : Str} (hx : Wd x) : IrOk (selfI x) := by
  refine ⟨hx, Nat.le_of_ble_eq_true rfl, two_of (rows_ok rfl) (rows_ok rfl), rfl, ?_, fun n => rfl, rfl, ?_, ?_⟩
  · intro i hi
    have hi : i ∈ [(1 : Int), 0] := hi
    simp only [List.mem_cons, List.not_mem_nil, or_false] at hi
    exact small01 hi.symm _ (by decide)
  · intro n e he
    match e, he with
    | 0, _ => simp [selfI, dotI]
    | 1, _ => simp [selfI, dotI]
  · intro N n hn i hi
    have hi : i ∈ [((n : Nat) : Int), 1] := hi
    simp only [List.mem_cons, List.not_mem_nil, or_false] at hi
    rcases hi with rfl | rfl
    · exact lt2_nat (Nat.lt_of_lt_of_le hn (Nat.pow_le_pow_right (by decide) (by omega)))
    · exact small01 (.inr rfl) _ (by omega)
/-! ### what is not so -/
def certF : D := .tup [.tup [.tup [.int 0]], .tup [.tup [.tup [.tup [.int 1, .int 1]]]]]
theorem s_false {x : Str} (hx : Wd x) (hw : BIG ≤ w) : callF pg w (k + 11) 67 [.str x] = M.pure (.bl true) := by
  rw [call_law_false_right]
  have h : Irs [nilI x, selfI x] x := ⟨hx, by simp, by simp, by
    intro r hr
    rcases mem_two hr with rfl | rfl
    · exact ⟨nil_ok hx, rfl⟩
    · exact ⟨self_ok hx, rfl⟩⟩
  have e := ir_same (w := w) (k := k + 1) h hw (d := certF) (certB_ok (by decide +kernel))
  rw [show spanI [nilI x, selfI x] none certF = false from (show spanI [nilI "a", selfI "a"] none certF = false by decide +kernel), Bool.false_and] at e
  have e1 : dR (nilI x).rl = .tup [.tup [.str x], .tup [.tup [], .tup []], .tup [], .tup []] := rfl
  have e2 : dR (selfI x).rl = .tup [.tup [.str x], .tup [.tup [.tup [.tup [.int 2, .int 1], .tup [.int 0, .int 1]], .tup [.tup [.int 0, .int 1], .tup [.int 1, .int 1]]], .tup [.tup [.tup [.int 2, .int 1], .tup [.int 1, .int 1]], .tup [.tup [.int 0, .int 1], .tup [.int 1, .int 1]]]], .tup [.int 0, .int 1], .tup [.tup [.int 1, .int 1], .tup [.int 0, .int 1]]] := rfl
  rw [e1, e2] at e
  unfold certF at e
  simp [b_law_false_right, need_len, toLine, e]
end CK

set_option linter.all false
set_option autoImplicit false
set_option maxRecDepth 100000
set_option maxHeartbeats 1000000
namespace CK
open PySem PySem.Spec L2 Bc
variable {w k : Nat}
/-! ### zeros first -/
def certZ (n : Int) : D := .tup [.tup [.tup [.int n]], .tup [.tup [.tup [.tup [.int 1, .int 1]], .tup [.tup [.int 1, .int 1]]]]]
theorem irs_one {a : Ir} {x : Str} (hx : Wd x) (ha : IrOk a ∧ a.x = x) : Irs [a] x := ⟨hx, by simp, by simp, by
  intro r hr; rw [List.mem_singleton] at hr; subst hr; exact ha⟩
theorem irs_two {a b : Ir} {x : Str} (hx : Wd x) (ha : IrOk a ∧ a.x = x) (hb : IrOk b ∧ b.x = x) : Irs [a, b] x := ⟨hx, by simp, by simp, by
  intro r hr
  rcases mem_two hr with rfl | rfl
  · exact ha
  · exact hb⟩
theorem one_many {x : Str} (hx : Wd x) {t : Int} (ht : Lt2 t 90) (hw : BIG ≤ w) : Many w ([oneI x t].map Ir.rf) [x] NB (lenI [oneI x t]) := by
  have h := irs_one hx ⟨one_ok hx ht, rfl⟩
  refine ⟨h.good hw, h.names, by simp, h.cx, ?_⟩
  intro nums hl hn r hr
  have hr : r ∈ [(oneI x t).rf] := hr
  rw [List.mem_singleton] at hr
  subst hr
  have e : valAt (oneI x t).rf.1 (oneI x t).rf.2 [x] nums = ((dotI [t] [if (nums[0]?).getD 0 = 0 then (1 : Int) else 0] : Int) : Rat) := val_ir (r := oneI x t) rfl nums
  rw [e]
  refine ⟨rfl, ?_⟩
  show Lt2 (0 + t * (if (nums[0]?).getD 0 = 0 then (1 : Int) else 0)) 300
  by_cases h0 : (nums[0]?).getD 0 = 0
  · rw [if_pos h0, Int.mul_one, Int.zero_add]
    exact ht.mono (by decide)
  · rw [if_neg h0, Int.mul_zero]
    exact small01 (.inl rfl) _ (by decide)
theorem ir_rel {x : Str} (hx : Wd x) {t : Int} (ht : Lt2 t 90) (hw : BIG ≤ w) :
    callF pg w (k + 9) 28 [.tup [.str (Str.ofString "relation"), .tup [dR (oneI x t).rl], .tup [.int 1]], certZ 1] = M.pure (.bl false) := by
  have e := acc_relation (w := w) (k := k + 8) (.tup [dR (oneI x t).rl]) (.tup [.int 1]) (certZ 1)
  refine e.trans ?_
  have e2 := s_is_relation (w := w) (k := k) hw (one_many hx ht hw) (by simp) (F := .tup [.int 1]) (d := certZ 1) (by decide +kernel) (by
    intro fs hf
    have : [(1 : Int)] = fs := ints_inj (xs := [1]) (ys := fs) hf
    subst this
    intro f h
    rw [List.mem_singleton] at h
    subst h
    exact small01 (.inr rfl) _ (by decide)) (certB_ok (by decide +kernel))
  refine e2.trans ?_
  rw [span_ir (rs := [oneI x t]) (x := x) (by intro r hr; rw [List.mem_singleton] at hr; subst hr; rfl), show spanI [oneI x t] none (certZ 1) = false from (show spanI [oneI "a" 0] none (certZ 1) = false by decide +kernel), Bool.false_and, Bool.and_false]
theorem s_zeros {x : Str} (hx : Wd x) (hw : BIG ≤ w) {p m : Nat} (hm : m ≤ 100000) : Tri (Pur p m) (callF pg w (k + 11) 62 [.loc p, .str x]) fun d s => d = .bl true ∧ Pur p (m + 1) s := by
  rw [call_law_zeros_right]
  have g9 : binD .Pow (.int 10) (.int 9) = M.pure (.int 1000000000) := by kernel_rfl
  simp [b_law_zeros_right, need_len, toLine, g9]
  refine Tri.bindF (s_one_of (p := p) (n := m) (by simp) (by simp) (by omega)) fun d hd => ?_
  have hT : ∃ T : Int, d = .int T ∧ Lt2 T 90 := by
    simp only [List.mem_cons, List.not_mem_nil, or_false] at hd
    rcases hd with rfl | rfl | rfl
    · exact ⟨1, rfl, by show Int.natAbs 1 < 2 ^ 90; decide⟩
    · exact ⟨-3, rfl, by show Int.natAbs (-3) < 2 ^ 90; decide⟩
    · exact ⟨1000000000, rfl, by show Int.natAbs 1000000000 < 2 ^ 90; decide⟩
  obtain ⟨T, rfl, hT⟩ := hT
  have hf := irs_two hx ⟨flat_ok hx hT, rfl⟩ ⟨flat_ok hx hT, rfl⟩
  have hs := irs_two hx ⟨one_ok hx hT, rfl⟩ ⟨one_ok hx (t := 0) (small01 (.inl rfl) _ (by decide)), rfl⟩
  have e1 := ir_same (w := w) (k := k + 1) hf hw (d := certZ 0) (certB_ok (by decide +kernel))
  have hal : (ptsOf (certZ 0)).all (alikeI (flatI x T) (flatI x T)) = true := List.all_eq_true.2 fun p hp => decide_eq_true rfl
  rw [show spanI [flatI x T, flatI x T] none (certZ 0) = true from (show spanI [flatI "a" 0, flatI "a" 0] none (certZ 0) = true by decide +kernel), hal] at e1
  have e2 := ir_same (w := w) (k := k + 1) hf hw (d := certZ 1) (certB_ok (by decide +kernel))
  rw [show spanI [flatI x T, flatI x T] none (certZ 1) = false from (show spanI [flatI "a" 0, flatI "a" 0] none (certZ 1) = false by decide +kernel), Bool.false_and] at e2
  have e3 := ir_same (w := w) (k := k + 1) hs hw (d := certZ 1) (certB_ok (by decide +kernel))
  rw [show spanI [oneI x T, oneI x 0] none (certZ 1) = false from (show spanI [oneI "a" 0, oneI "a" 0] none (certZ 1) = false by decide +kernel), Bool.false_and] at e3
  have e4 := ir_rel (w := w) (k := k + 1) hx hT hw
  have d1 : dR (flatI x T).rl = .tup [.tup [.str x], .tup [.tup [.tup [.tup [.int 1, .int 1]]], .tup [.tup [.tup [.int 1, .int 1]]]], .tup [.int 1], .tup [.tup [.int T, .int 1]]] := rfl
  have d2 : ∀ t, dR (oneI x t).rl = .tup [.tup [.str x], .tup [.tup [.tup [.tup [.int 1, .int 1]]], .tup [.tup [.tup [.int 0, .int 1]]]], .tup [.int 1], .tup [.tup [.int t, .int 1]]] := fun t => rfl
  rw [d1] at e1 e2
  rw [d2, d2] at e3
  rw [d2] at e4
  unfold certZ at e1 e2 e3 e4
  have c3 : ∀ a b c d : D, cutD [a, b, c, d] none (some 3) = [a, b, c] := fun a b c d => cut_to [a, b, c, d] 3
  simp [c3, need_len, toLine]
  rw [addTs (by simp), pure_bind']
  simp [e1, e2, e3, e4, need_len, toLine]
  refine Tri.eq (m' := M.pure (.bl true)) (by kernel_rfl) ?_
  exact Tri.pure fun s hs => ⟨rfl, hs⟩
/-! ### slow rules -/
def zeroS : D := .tup [.tup [.int 1, .int 1], .tup [.int 0, .int 1], .tup [.int 0, .int 1]]
def oneS : D := .tup [.tup [.int 0, .int 1], .tup [.int 1, .int 1], .tup [.int 0, .int 1]]
def twoS : D := .tup [.tup [.int 0, .int 1], .tup [.int 0, .int 1], .tup [.int 1, .int 1]]
def halfS : D := .tup [.tup [.int 0, .int 1], .tup [.int 1, .int 2], .tup [.int 1, .int 2]]
def certS (e l : D) : D := .tup [.tup [.tup [.int 0], .tup [.int 1], .tup [.int 2]], .tup [.tup [zeroS, e], .tup [l, .non], .tup [.non, .non]]]
def spanS (d : D) : Bool := spanI [slowI "a" [], slowI "a" []] (some [3]) d
def goodS (d : D) : Bool := certB d && (spanS d && decide (ptsOf d = [[0], [1], [2]]))
def badSl (d : D) : Bool := certB d && !spanS d
def slowOk : Bool := (goodS (certS oneS oneS) && (goodS (certS oneS twoS) && goodS (certS oneS halfS))) && (badSl (certS twoS oneS) && badSl (certS halfS oneS))
theorem slow_all : slowOk = true := by decide +kernel
theorem s_slow_rule {x : Str} {a b c : Int} : callF pg w (k + 1) 60 [.str x, .lst true [.int a, .int b, .int c]] = M.pure (dR (slowI x [a, b, c]).rl) := by
  rw [call_law_slow_rule]
  simp [b_law_slow_rule, need_len, toLine]
  rfl
theorem slow_alike {x : Str} (a b c t : Int) (ht : t ≠ 0) : (alikeI (slowI x [a, b, c]) (slowI x [a - t, b - 2 * t, c + t]) [0] = true ∧ alikeI (slowI x [a, b, c]) (slowI x [a - t, b - 2 * t, c + t]) [1] = true ∧ alikeI (slowI x [a, b, c]) (slowI x [a - t, b - 2 * t, c + t]) [2] = true) ∧ alikeI (slowI x [a, b, c]) (slowI x [a - t, b - 2 * t, c + t]) [3] = false := by
  have o0 : ones 0 = 0 := by decide
  have o1 : ones 1 = 1 := by decide
  have o2 : ones 2 = 1 := by decide
  have o3 : ones 3 = 2 := by decide
  simp [alikeI, slowI, dotI, o0, o1, o2, o3]
  omega
def quint : List (D × D × Bool) := [(oneS, oneS, true), (oneS, twoS, true), (oneS, halfS, true), (twoS, oneS, false), (halfS, oneS, false)]
theorem quint_call {x : Str} (hx : Wd x) (hw : BIG ≤ w) {a b c t : Int} (ha : Lt2 a 42) (hb : Lt2 b 42) (hc : Lt2 c 42) (ht : t ≤ 9 ∧ 0 ≤ t) (ht0 : t ≠ 0) {q : D × D × Bool} (hq : q ∈ quint) :
    callF pg w (k + 9) 28 [.tup [.str (Str.ofString "parting"), dR (slowI x [a, b, c]).rl, dR (slowI x [a - t, b - 2 * t, c + t]).rl, .tup [.tup [.str x, .int 3]]], certS q.1 q.2.1] = M.pure (.bl q.2.2) := by
  have hk := slow_all
  unfold slowOk at hk
  rw [Bool.and_eq_true, Bool.and_eq_true, Bool.and_eq_true, Bool.and_eq_true] at hk
  obtain ⟨⟨g1, g2, g3⟩, b1, b2⟩ := hk
  have ok1 : IrOk (slowI x [a, b, c]) := slow_ok hx rfl (by
    intro i hi
    simp only [List.mem_cons, List.not_mem_nil, or_false] at hi
    rcases hi with rfl | rfl | rfl
    · exact ha.mono (by decide)
    · exact hb.mono (by decide)
    · exact hc.mono (by decide))
  have ok2 : IrOk (slowI x [a - t, b - 2 * t, c + t]) := slow_ok hx rfl (by
    unfold Lt2 at ha hb hc
    intro i hi
    simp only [List.mem_cons, List.not_mem_nil, or_false] at hi
    unfold Lt2
    rcases hi with rfl | rfl | rfl <;> omega)
  have h := irs_two hx ⟨ok1, rfl⟩ ⟨ok2, rfl⟩
  have al := slow_alike (x := x) a b c t ht0
  have good : ∀ d, goodS d = true → callF pg w (k + 9) 28 [.tup [.str (Str.ofString "parting"), dR (slowI x [a, b, c]).rl, dR (slowI x [a - t, b - 2 * t, c + t]).rl, .tup [.tup [.str x, .int 3]]], d] = M.pure (.bl true) := fun d hd => by
    unfold goodS at hd
    rw [Bool.and_eq_true, Bool.and_eq_true] at hd
    have e := ir_part (w := w) (k := k) h hw (certB_ok hd.1)
    refine e.trans ?_
    rw [show spanI [slowI x [a, b, c], slowI x [a - t, b - 2 * t, c + t]] (some [3]) d = spanS d from rfl, hd.2.1, of_decide_eq_true hd.2.2, al.2]
    simp [al.1]
  have bad : ∀ d, badSl d = true → callF pg w (k + 9) 28 [.tup [.str (Str.ofString "parting"), dR (slowI x [a, b, c]).rl, dR (slowI x [a - t, b - 2 * t, c + t]).rl, .tup [.tup [.str x, .int 3]]], d] = M.pure (.bl false) := fun d hd => by
    unfold badSl at hd
    rw [Bool.and_eq_true] at hd
    have e := ir_part (w := w) (k := k) h hw (certB_ok hd.1)
    refine e.trans ?_
    have hs : spanS d = false := by simpa using hd.2
    rw [show spanI [slowI x [a, b, c], slowI x [a - t, b - 2 * t, c + t]] (some [3]) d = spanS d from rfl, hs, Bool.false_and, Bool.and_false]
  simp only [quint, List.mem_cons, List.not_mem_nil, or_false] at hq
  rcases hq with rfl | rfl | rfl | rfl | rfl
  · exact good _ g1
  · exact good _ g2
  · exact good _ g3
  · exact bad _ b1
  · exact bad _ b2
theorem s_slow {x : Str} (hx : Wd x) (hw : BIG ≤ w) {p m : Nat} (hm : m ≤ 100000) : Tri (Pur p m) (callF pg w (k + 11) 61 [.loc p, .str x]) fun d s => d = .bl true ∧ Pur p (m + 4) s := by
  rw [call_law_slow_right]
  have g12 : binD .Pow (.int 10) (.int 12) = M.pure (.int 1000000000000) := by kernel_rfl
  have r3 : itR1 [.int 3] = M.pure ([0, 1, 2].map fun i : Int => D.int i) := by kernel_rfl
  simp [b_law_slow_right, g12]
  rw [r3, pure_bind']
  refine Tri.bindF (Tri.noX (Tri.pre (tri_mapP (P := fun y => ∃ r : Int, y = .int r ∧ Lt2 r 42) (I := fun i s => Pur p (m + i) s) (N := 3) (n := 0) ?_ (by simp)) fun s hs => hs)) fun ys hys => ?_
  · intro d hd i hi Q hQ
    rw [need_len (toLine (by decide)), pure_bind']
    refine Tri.bindF (s_one_of (p := p) (n := m + i) (by simp) (by simp) (by omega)) fun d hd => ?_
    have : ∃ r : Int, d = .int r ∧ Lt2 r 42 := by
      simp only [List.mem_cons, List.not_mem_nil, or_false] at hd
      rcases hd with rfl | rfl | rfl | rfl
      · exact ⟨0, rfl, by show Int.natAbs 0 < 2 ^ 42; decide⟩
      · exact ⟨1, rfl, by show Int.natAbs 1 < 2 ^ 42; decide⟩
      · exact ⟨-4, rfl, by show Int.natAbs (-4) < 2 ^ 42; decide⟩
      · exact ⟨1000000000000, rfl, by show Int.natAbs 1000000000000 < 2 ^ 42; decide⟩
    exact Tri.pure fun s hs => hQ _ _ this hs
  obtain ⟨zs, rfl, g1, g2⟩ := lift_map (g := fun r : Int => D.int r) (G := fun r => Lt2 r 42) hys.2
  have hl : zs.length = 3 := by
    have := hys.1
    rw [List.length_map] at this
    simpa using this
  match zs, hl with
  | [a, b, c], _ =>
    have ha := g2 a (by simp)
    have hb := g2 b (by simp)
    have hc := g2 c (by simp)
    have hs9 := s_draw (w := w) (k := k + 9) (p := p) (n := m + (0 + ([0, 1, 2].map fun i : Int => D.int i).length)) (many := 9) (by decide) (by decide) (by simp; omega)
    simp at hs9
    simp [need_len, toLine]
    refine Tri.bindF hs9 fun d hd => ?_
    obtain ⟨j, rfl, hj⟩ := hd
    rw [binD_add, pure_bind', show (1 : Int) + (j : Nat) = ((j + 1 : Nat) : Int) by omega]
    have ht0 : ((j + 1 : Nat) : Int) ≠ 0 := by omega
    have ht9 : ((j + 1 : Nat) : Int) ≤ 9 ∧ 0 ≤ ((j + 1 : Nat) : Int) := by omega
    generalize ((j + 1 : Nat) : Int) = t at *
    have hm2 := binD_mul (mulOk_small (i := 2) (j := t) (by decide) (by omega))
    have hsub : ∀ u v : Int, binD .Sub (.int u) (.int v) = M.pure (.int (u - v)) := fun u v => binD_sub u v
    rw [binD_addL (toLine (by simp)), pure_bind']
    have sr := fun a b c => s_slow_rule (w := w) (k := k + 9) (x := x) (a := a) (b := b) (c := c)
    simp [hm2, hsub, sr]
    refine tri_posE (e := fun q : D × D × Bool => D.tup [q.1, q.2.1]) (fun (v : List D) (j : Slot × Slot × Slot) => [.val (.loc p), .val (.str x), .val (dR (slowI x [a, b, c]).rl), .val (dR (slowI x [a - t, b - 2 * t, c + t]).rl), .val halfS, .own v, .val (.int a), .val (.int b), .val (.int c), .val (.int t), .val zeroS, .val oneS, .val twoS, j.1, j.2.1, j.2.2, .un])
      (xs := quint) (fun i => (quint.take i).map fun q => .bl q.2.2) (j := (.un, .un, .un)) rfl rfl ?_ ?_
    · intro i hi j
      have hq := List.getElem_mem hi
      have ht := take_app [] quint (fun q => D.bl q.2.2) hi
      rw [List.nil_append, List.nil_append] at ht
      rw [ht]
      have hl := take_len [] quint (fun q => D.bl q.2.2) i
      rw [List.nil_append, show (quint : List (D × D × Bool)).length = 5 from rfl, List.length_nil] at hl
      generalize (quint.take i).map (fun q => D.bl q.2.2) = v at *
      have hc := quint_call (w := w) (k := k + 1) hx hw ha hb hc ht9 ht0 hq
      generalize quint[i] = q at *
      unfold certS at hc
      have hr : need (decide (v.length < LINE)) = M.pure () := need_of (decide_eq_true (show v.length < 16777216 by omega))
      simp [hc, hr]
      exact Ret.pure ⟨_, _, _, rfl⟩
    · intro j
      simp
      refine Tri.eq (m' := M.pure (.bl true)) (by kernel_rfl) ?_
      exact Tri.pure fun s hs => ⟨rfl, hs⟩
end CK

set_option linter.all false
set_option autoImplicit false
set_option maxRecDepth 100000
set_option maxHeartbeats 1000000
namespace CK
open PySem PySem.Spec L2 Bc
variable {w k : Nat}
theorem flt_of {fs : List Int} (h : ∀ f ∈ fs, f ∈ factorL) : ∀ f ∈ fs, Lt2 f 90 := fun f hf => (factorL_lt (h f hf)).mono (by decide)
theorem s_right {p n : Nat} (hn : n ≤ 1000) (hw : BIG ≤ w) : Tri (Pur p n) (callF pg w (k + 12) 68 [.loc p]) fun d s => d = .bl true ∧ Pur p (n + 100) s := by
  rw [call_law_right]
  simp [b_law_right, need_len, toLine]
  refine Tri.bindF (s_two_names (p := p) (n := n) (by omega)) fun d hd => ?_
  obtain ⟨x, y, rfl, hx, hy, hne⟩ := hd
  have hns := ns_one hx
  simp [need_len, toLine]
  refine Tri.bindF (s_factors (p := p) (n := n + 18) (k := k + 8) (by omega)) fun d hd => ?_
  obtain ⟨fs, rfl, g4, g5⟩ := hd
  refine Tri.bindF (s_rule (p := p) (n := n + 18 + 4) (k := k + 8) (nm := [x]) (fb := true) (by omega) hns.l12 g4 (flt_of g5) hw) fun d hd => ?_
  obtain ⟨a, rfl, ha, rfl⟩ := rule_get hns g4 g5 hd
  refine Tri.bindF (s_behind (w := w) (k := k) (p := p) (m := n + 18 + 4 + 6) hx ha hw (by omega)) fun d hd => ?_
  subst hd
  simp
  refine Tri.bindF (s_parting (w := w) (k := k) (p := p) (m := n + 18 + 4 + 6 + 12) hx hw g4 g5 (by omega)) fun d hd => ?_
  subst hd
  simp
  refine Tri.bindF (s_order (w := w) (k := k) (p := p) (m := n + 18 + 4 + 6 + 12 + 14) hx ha hw (by omega)) fun d hd => ?_
  subst hd
  simp
  refine Tri.bindF (s_kinds (w := w) (k := k) (p := p) (m := n + 18 + 4 + 6 + 12 + 14 + 2) hx ha hw (by omega)) fun d hd => ?_
  subst hd
  have ef := s_false (w := w) (k := k) hx hw
  simp [ef]
  refine Tri.bindF (s_slow (w := w) (k := k) (p := p) (m := n + 18 + 4 + 6 + 12 + 14 + 2 + 2) hx hw (by omega)) fun d hd => ?_
  subst hd
  simp
  exact (s_zeros (w := w) (k := k) (p := p) (m := n + 18 + 4 + 6 + 12 + 14 + 2 + 2 + 4) hy hw (by omega)).weaken fun d s hs => ⟨hs.1, hs.2.mono (by omega)⟩
theorem s_law (ns : List Int) (hl : ns.length ≤ 63) (hw : BIG ≤ w) : Tri (fun _ => True) (callF pg w (k + 13) 69 [.ro (ns.map .int)]) fun d _ => d = .bl true := by
  rw [call_law]
  obtain ⟨N, hN, e⟩ : ∃ N : Nat, N ≤ 4 ∧ (if (2 : Int) < (if ((ns.length : Nat) : Int) < 4 then ((ns.length : Nat) : Int) else 4) then (if ((ns.length : Nat) : Int) < 4 then ((ns.length : Nat) : Int) else 4) else 2) = (N : Int) := by
    by_cases h1 : ns.length < 4
    · rw [if_pos (show ((ns.length : Nat) : Int) < 4 by omega)]
      by_cases h2 : 2 < ns.length
      · exact ⟨ns.length, by omega, if_pos (by omega)⟩
      · exact ⟨2, by omega, if_neg (by omega)⟩
    · rw [if_neg (show ¬ ((ns.length : Nat) : Int) < 4 by omega)]
      exact ⟨4, by omega, if_pos (by omega)⟩
  simp [b_law]
  rw [e, itR1_nat (to62 (by omega)), pure_bind']
  refine Tri.bindF (Tri.noX (Tri.pre (tri_mapP (P := fun y => ∃ r : Bool, y = .bl r ∧ r = true) (I := fun _ _ => True) (N := 4) (n := 0) ?_ (by simp; omega)) fun s hs => hs)) fun ys hys => ?_
  · intro d hd n hn Q hQ
    rw [List.mem_map] at hd
    obtain ⟨t, ht, rfl⟩ := hd
    rw [List.mem_range] at ht
    obtain ⟨_, e1, c, rfl⟩ := s_cell (w := w) (k := k + 11) ns (t := t) (by omega)
    rw [e1, pure_bind']
    refine Tri.bind (s_purse (w := w) (k := k + 11) c) fun d => ?_
    intro s hs
    obtain ⟨p, rfl, hp⟩ := hs
    have h := Tri.bind (s_right (w := w) (k := k) (p := p) (n := 0) (by omega) hw) (f := fun y => M.pure (some y)) (R := Q) fun y => Tri.pure fun s hs => hQ _ _ ⟨true, hs.1, rfl⟩ trivial
    exact h s hp
  obtain ⟨bs, rfl, h1, h2⟩ := lift_map (g := D.bl) (G := fun r => r = true) hys.2
  rw [hys.1, List.length_map, List.length_range] at h1
  have hb := bAll_map id bs true
  have hall : bs.all id = true := by
    rw [List.all_eq_true]
    intro b hb
    exact h2 b hb
  rw [hall] at hb
  rw [need_len (toLine (by rw [List.length_map]; omega)), pure_bind']
  rw [show (fun x => D.bl (id x)) = D.bl from rfl] at hb
  rw [hb]
  exact Tri.pure fun s hs => rfl
abbrev lawIx : Nat := 69
abbrev lawFr : Fr := frs.getD 69 ⟨Str.empty, top 0, [], 0, .nil⟩
abbrev depth : Nat := 40
theorem lawHolds : ∀ ns : List Int, ns.length ≤ 63 → ∃ wf s, callF (pgOf frs tab) wf depth lawIx [.ro (ns.map .int)] [] = .ok (.bl true, s) := by
  intro ns hl
  obtain ⟨a, s, h, rfl⟩ := s_law (w := BIG) (k := 27) ns hl (Nat.le_refl _) [] trivial
  exact ⟨BIG, s, h⟩
end CK

set_option linter.all false
set_option autoImplicit false
set_option maxRecDepth 100000
set_option maxHeartbeats 0
namespace CK
open PySem PySem.Spec L2 Bc
abbrev endRow : PySem.W.OpenRow := PySem.W.OpenLaw.row PySem.Challenge.rw_bitcounts_k88_clauses_of_the_checker_alo
abbrev theHook : PySem.W.Hook := He.hookX 4 (faL ms frs) (fnL frs) (tsL ms tab) [] (exL ms tab)
def looked (s : PySem.W.SharedT) : He.AlX := He.obsX 4 (faL ms frs) (fnL frs) (tsL ms tab) [] (exL ms tab) (HandSHeadRun.getT s)
theorem looked_eq (s : PySem.W.SharedT) : looked s = theHook.obs s.abs := He.obsX_eq (HandSHeadRun.getT_eq s)
def looseL : List Str := [("CLASSES" : PySem.Str), ("NAMES" : PySem.Str), ("__name__" : PySem.Str), ("LETTERS" : PySem.Str), ("LONGEST" : PySem.Str), ("LINES" : PySem.Str), ("is_whole" : PySem.Str), ("is_word" : PySem.Str), ("are_names" : PySem.Str), ("shared" : PySem.Str), ("is_fraction" : PySem.Str), ("is_row" : PySem.Str), ("is_side" : PySem.Str), ("rows_for" : PySem.Str), ("is_plain_rule" : PySem.Str), ("begun" : PySem.Str), ("added" : PySem.Str), ("applied" : PySem.Str), ("place_of" : PySem.Str), ("index_of" : PySem.Str), ("digits_at" : PySem.Str), ("length_of" : PySem.Str), ("values_at" : PySem.Str), ("told_at" : PySem.Str), ("all_values_at" : PySem.Str), ("names_of" : PySem.Str), ("are_rules" : PySem.Str), ("PAIRS" : PySem.Str), ("is_state" : PySem.Str), ("are_ways" : PySem.Str), ("is_machine" : PySem.Str), ("follower" : PySem.Str), ("keeps" : PySem.Str), ("are_pairs" : PySem.Str), ("is_closed" : PySem.Str), ("POINTS" : PySem.Str), ("is_ahead" : PySem.Str), ("is_point" : PySem.Str), ("are_points" : PySem.Str), ("begins" : PySem.Str), ("is_made" : PySem.Str), ("has_rows" : PySem.Str), ("is_span" : PySem.Str), ("LENGTHS" : PySem.Str), ("GREATEST" : PySem.Str), ("MOST" : PySem.Str), ("accepts" : PySem.Str), ("is_empty" : PySem.Str), ("is_number_of" : PySem.Str), ("are_numbers" : PySem.Str), ("are_alike" : PySem.Str), ("are_rules_so" : PySem.Str), ("is_zero_at" : PySem.Str), ("is_relation" : PySem.Str), ("are_machines_so" : PySem.Str), ("_law_cell" : PySem.Str), ("_law_purse" : PySem.Str), ("_law_draw" : PySem.Str), ("_law_one_of" : PySem.Str), ("_law_name" : PySem.Str), ("_law_two_names" : PySem.Str), ("_law_divisor" : PySem.Str), ("_law_fraction" : PySem.Str), ("_law_steps" : PySem.Str), ("_law_table" : PySem.Str), ("_law_worths" : PySem.Str), ("_law_shares" : PySem.Str), ("_law_rule" : PySem.Str), ("_law_factors" : PySem.Str), ("_law_so" : PySem.Str), ("_law_put" : PySem.Str), ("_law_paper" : PySem.Str), ("_law_with_share" : PySem.Str), ("_law_behind_right" : PySem.Str), ("_law_parting_right" : PySem.Str), ("_law_slow_rule" : PySem.Str), ("_law_slow_right" : PySem.Str), ("_law_zeros_right" : PySem.Str), ("_law_swapped" : PySem.Str), ("_law_doubled" : PySem.Str), ("_law_order_right" : PySem.Str), ("_law_kinds_right" : PySem.Str), ("_law_false_right" : PySem.Str), ("_law_right" : PySem.Str)]
/-- a world where one question is answered by b -/
def wB (w : World) (b : Bool) : World := { w with params := { w.params with followText := fun s => match decide (s = "special-get-raises") with | true => b | false => w.params.followText s } }
theorem wB_eq (w : World) : wB w (w.params.followText "special-get-raises") = w := by
  have e : (fun s => match decide (s = "special-get-raises") with | true => w.params.followText "special-get-raises" | false => w.params.followText s) = w.params.followText := by
    funext s
    by_cases h : s = "special-get-raises"
    · subst h; simp
    · simp [h]
  show ({ w with params := { w.params with followText := _ } } : World) = w
  rw [e]
theorem ranT (w : World) : HandSHeadRun.RunEq endRow (PySem.W.view endRow.prog [88]) theHook looked 6000 looseL (wB w true) := by
  intro os
  kernel_rfl
theorem ranF (w : World) : HandSHeadRun.RunEq endRow (PySem.W.view endRow.prog [88]) theHook looked 6000 looseL (wB w false) := by
  intro os
  kernel_rfl
theorem ran (w : World) : HandSHeadRun.RunEq endRow (PySem.W.view endRow.prog [88]) theHook looked 6000 looseL w := by
  have h : ∀ b, HandSHeadRun.RunEq endRow (PySem.W.view endRow.prog [88]) theHook looked 6000 looseL (wB w b) := fun b => by
    cases b with
    | true => exact ranT w
    | false => exact ranF w
  have z := h (w.params.followText "special-get-raises")
  rw [wB_eq] at z
  exact z
theorem facts {P : Program} {w : World} {K : PySem.W.Frag} {h : Heap} {mg : Str → Option Value} {f : Addr} (KX : K.In h) (G : h.Ns mainGlobals mg) (hfa : mg ("law" : Str) = some (.ref f)) (c : He.SaysX (faL ms frs) (fnL frs) (tsL ms tab) [] (exL ms tab) w h K) :
    ∃ fd : FuncData, (∀ (s : Shared) (v : Value), BindsTo s fd ⟨[v], []⟩ [("_law_script", v)]) ∧ ∀ base : Heap, K.In base → base.Ns mainGlobals mg → FnOk P w K mg base CX0 depth f fd ["_law_script"] (Bc.spLaw K 63) := by
  have T : Top ⟨K, fun _ => 0, fun _ => 0, fun _ => Str.empty, fun _ => .none⟩ ms frs tab P w K mg := top_of rfl KX G c rfl (by decide +kernel) check
  obtain ⟨addr, fd, F, hm⟩ := T.at_ lawIx lawFr rfl
  have e := hm.symm.trans hfa
  cases e
  have b := FunD.bindsA (ps := ["_law_script"]) F fun _ _ _ _ _ _ us hl => match us, hl with | [_], _ => rfl
  exact ⟨fd, fun s v => b s [v] rfl, fun base _ _ => law_ok T (f := lawIx) (r := lawFr) rfl F rfl lawHolds⟩
end CK
open PySem PySem.W PySem.Calls PyProof.Rows
theorem PySem.Challenge.cw_bitcounts_k88_clauses_of_the_checker_alo_holds : PySem.Challenge.rw_bitcounts_k88_clauses_of_the_checker_alo.Holds := by
  w_on; o_law
  refine HandSHeadRun.head_any (r := CK.endRow) (q := view CK.endRow.prog [88]) (H := CK.theHook) (ob := CK.looked) (M := 6000) (loose := CK.looseL) (d := HandSHeadRun.topDef CK.endRow.prog 88) (kwd := []) CK.looked_eq
    (by kernel_rfl) (fun s => by kernel_rfl) CK.ran (by kernel_rfl) (by kernel_rfl) (by kernel_rfl) (by rfl) (by first | assumption | decide +kernel) (by decide +kernel) ⟨rfl, rfl, rfl, rfl, rfl, by decide +kernel⟩ ?hw ?hc
  case hw => w_witness2
  case hc =>
    refine L2.walk_ofE (l := PySem.Challenge.rw_bitcounts_k88_clauses_of_the_checker_alo) (n := 63) (k := CK.depth) (x := "_law_script") (CX := L2.CX0) rfl (by decide) (by kernel_rfl) ⟨rfl, by decide, by decide⟩ ?F (fun _ _ _ _ z => z)
    intro w mg fa h Y G hmg0
    obtain ⟨K, KX, c⟩ := Y
    have hmg : mg ("law" : PySem.Str) = some (.ref fa) := by
      have e : (HandSHeadRun.topDef CK.endRow.prog 88).name = ("law" : PySem.Str) := by kernel_rfl
      rw [← e]
      exact hmg0
    obtain ⟨fd, hb, hF⟩ := CK.facts (P := (PySem.Challenge.rw_bitcounts_k88_clauses_of_the_checker_alo).prog) (w := w) KX G hmg c
    exact ⟨K, fd, Bc.spLaw K 63, KX, hb, fun H a ns hl _ hS => ⟨a, ns, rfl, hl, hS, fun _ => rfl⟩, hF⟩
