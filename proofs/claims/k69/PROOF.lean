import PyProof.Rows.All
import HandS.ForMost
import HandS.TupMul
import HandS.TupAny
import HandS.Wide
import HandS.WideBits
import HandS.Deep
import HandS.Style
import HandS.Flow
import HandS.SortInts
import HandS.Zip
import HandS.Rev
import HandS.Iter
import HandS.IsInst
import HandS.RaiseMore
import HandS.ForExc
import HandS.ExcOwn
import HandS.Comp
import HandS.Star
import HandS.DictComp
import HandS.Defaults
import HandS.Head3
import HandS.HeadEnd
import HandS.Head0
import HandS.Head1
import HandS.Head2
import HandS.HeadHook1
import HandS.HeadHook2
import HandS.HeadHook3
import HandS.HeadHook4
import PyProof.NoPylong
import PyProof.Rows.StrMeet
import Lean
import PySem.Challenge.RW_bitcounts_k69_whole_machines_accepted
set_option Elab.async false
set_option linter.all false
set_option maxRecDepth 100000
namespace Bc
open PySem

/-- values, as trees -/
inductive D where
  | non | bl (b : Bool) | int (i : Int) | str (x : Str)
  | tup (xs : List D)
  | lst (fz : Bool) (xs : List D)
  | ro (xs : List D)
  | dK (fz : Bool) (kvs : List (L2.Key × D))
  | dT (fz : Bool) (kvs : List (List L2.Key × D))
  | ins (c : Nat) (fs : List (Nat × D))
  | exc (c : Nat) (fs : List (Nat × D))
  | cls (c : Nat)
  | fn (f : Nat)
  | loc (n : Nat)
  deriving Inhabited

/-- the long-lived mutable lists -/
abbrev Sto := List (List D)

inductive R (α : Type) where
  | ok (a : α)
  | exc (c : Nat) (fs : List (Nat × D)) (s : Sto)
  | stuck

def M (α : Type) : Type := Sto → R (α × Sto)
def M.pure {α : Type} (a : α) : M α := fun s => .ok (a, s)
def M.bind {α β : Type} (m : M α) (f : α → M β) : M β := fun s => match m s with
  | .ok (a, s') => f a s'
  | .exc c fs s' => .exc c fs s'
  | .stuck => .stuck
instance : Monad M where
  pure := M.pure
  bind := M.bind
def stuck {α : Type} : M α := fun _ => .stuck
def ofOpt {α : Type} : Option α → M α
  | some a => M.pure a
  | none => stuck
def need (b : Bool) : M Unit := fun s => if b then .ok ((), s) else .stuck

/-- a frame's slots -/
inductive Slot where
  | un | val (d : D) | own (xs : List D) | ownK (kvs : List (L2.Key × D)) | ownT (kvs : List (List L2.Key × D))
  deriving Inhabited
abbrev Env := List Slot

inductive Bf where
  | len | abs | min2 | max2 | int1 | bool1 | sum | any | all | tuple | list | sorted | str1 | divmod
  deriving DecidableEq
inductive Bm where
  | bitLength | index | count | get2
  deriving DecidableEq
inductive Ty where
  | int | bool | str | tuple | list | dict | cls (c : Nat)
  deriving DecidableEq
inductive Itb where
  | seq | range1 | range2 | range3 | enum | zip | rev
  deriving DecidableEq

mutual
inductive E where
  | nev
  | var (i : Nat)
  | own (i : Nat)
  | int (i : Int) | bl (b : Bool) | non | str (x : Str)
  | glob (d : D)
  | bin (o : Operator) (a b : E)
  | neg (a : E) | inv (a : E) | not (a : E)
  | cmp (o : CmpOp) (a b : E)
  | cmp2 (o o' : CmpOp) (a b c : E)
  | and (a b : E) | or (a b : E)
  | ite (c a b : E)
  | tup (es : Es) | lst (es : Es)
  | sub (a i : E)
  | slice (a : E) (lo hi : Op)
  | fld (a : E) (n : Nat)
  | call (f : Nat) (es : Es)
  | callB (f : Nat) (es : Es)
  | make (c : Nat) (es : Es)
  | isi (a : E) (ts : List Ty)
  | bi (b : Bf) (es : Es)
  | bm (b : Bm) (a : E) (es : Es)
  | kget (x : Str) (a b : E)
  | dcT (t : T) (k : Itb) (it : Es) (cs : Es) (e f : E) (own : List Nat)
  | lc (t : T) (k : Itb) (it : Es) (cs : Es) (e : E) (own : List Nat)
  | lc2 (t : T) (k : Itb) (it : Es) (cs : Es) (t1 : T) (k1 : Itb) (it1 : Es) (cs1 : Es) (e : E) (own own1 : List Nat)
inductive Es where
  | nil | cons (e : E) (r : Es) | star (e : E) (r : Es)
inductive Op where
  | no | ex (e : E)
inductive T where
  | nm (i : Nat) | tp (ts : Ts) | sub (a k : E)
inductive Ts where
  | nil | cons (t : T) (r : Ts)
end

mutual
inductive S where
  | nev
  | asg (t : T) (e : E)
  | asgOwn (i : Nat) (e : E)
  | freeze (i : Nat)
  | app (i : Nat) (e : E)
  | put (i : Nat) (k e : E)
  | expr (e : E)
  | ret (e : E)
  | retN
  | retLoc (es : Es)
  | ite (c : E) (a b : Ss)
  | loop (t : T) (k : Itb) (it : Es) (b : Ss)
  | whil (c : E) (b : Ss)
  | brk | cont | pass
inductive Ss where
  | nil | cons (s : S) (r : Ss)
end

/-! ### operations on values -/
def LINE : Nat := 16777216
def asSeq : D → Option (List D)
  | .tup xs => some xs
  | .lst _ xs => some xs
  | .ro xs => some xs
  | _ => none
def lenOk (n : Nat) : Bool := decide (n ≤ LINE)
def mulOk (i j : Int) : Bool := decide (i.natAbs.log2 + j.natAbs.log2 < 1000000)
/-- C divides by itself -/
def pyDiv (i j : Int) : Bool := decide (0 < j) && !Builtin.divisionGoesByPylong i j
def divOk (j : Int) : Bool := decide (0 < j ∧ j.natAbs.log2 < 9000)
def powOk (i j : Int) : Bool := decide (0 ≤ j ∧ j ≤ 1000000 ∧ i.natAbs < 2 ^ 64)
def binI (o : Operator) (i j : Int) : M D := match o with
  | .Add => pure (.int (i + j))
  | .Sub => pure (.int (i - j))
  | .Mult => do need (mulOk i j); pure (.int (i * j))
  | .FloorDiv => do need (pyDiv i j); pure (.int (i / j))
  | .Mod => do need (decide (0 < j)); pure (.int (i % j))
  | .Pow => do need (powOk i j); pure (.int (i ^ j.toNat))
  | .RShift => do need (decide (0 ≤ j)); pure (.int (i / 2 ^ j.toNat))
  | .BitAnd => pure (.int (Builtin.bitAnd i j))
  | .BitOr => pure (.int (Builtin.bitOr i j))
  | .BitXor => pure (.int (Builtin.bitXor i j))
  | _ => stuck
def repL (xs : List D) (k : Int) : List D := (List.replicate k.toNat xs).flatten
def binD (o : Operator) (x y : D) : M D := match x, y with
  | .int i, .int j => binI o i j
  | .str a, .str b => (match o with
    | .Add => do need (lenOk (a.length + b.length)); pure (.str (a ++ b))
    | _ => stuck)
  | .tup a, .tup b => (match o with
    | .Add => do need (lenOk (a.length + b.length)); pure (.tup (a ++ b))
    | _ => stuck)
  | .lst _ a, .lst _ b => (match o with
    | .Add => do need (lenOk (a.length + b.length)); pure (.lst true (a ++ b))
    | _ => stuck)
  | .lst _ a, .int k => (match o with
    | .Mult => do need (decide (0 ≤ k ∧ k < 1000000) && lenOk (a.length * k.toNat)); pure (.lst true (repL a k))
    | _ => stuck)
  | .tup a, .int k => (match o with
    | .Mult => do need (decide (0 ≤ k ∧ k < 1000000) && lenOk (a.length * k.toNat)); pure (.tup (repL a k))
    | _ => stuck)
  | _, _ => stuck

mutual
/-- what == looks at -/
def toPy : D → Option PyData
  | .non => some .none
  | .bl b => some (.bool b)
  | .int i => some (.int i)
  | .str x => some (.str x)
  | .tup xs => (toPys xs).map .tuple
  | .lst _ xs => (toPys xs).map .list
  | _ => none
def toPys : List D → Option (List PyData)
  | [] => some []
  | x :: xs => match toPy x, toPys xs with
    | some d, some ds => some (d :: ds)
    | _, _ => none
end
/-- equal data: none where == is not ours -/
def eqD (x y : D) : Option Bool := match toPy x, toPy y with
  | some d, some e => if SeqAt.shaped d && SeqAt.shaped e then some (PyData.eqv d e) else none
  | _, _ => none
def asInts : List D → Option (List Int)
  | [] => some []
  | .int i :: r => (asInts r).map (i :: ·)
  | _ => none
def asStrs : List D → Option (List Str)
  | [] => some []
  | .str i :: r => (asStrs r).map (i :: ·)
  | _ => none
def asBls : List D → Option (List Bool)
  | [] => some []
  | .bl i :: r => (asBls r).map (i :: ·)
  | _ => none
def ltD : D → D → Option Bool
  | .int i, .int j => some (decide (i < j))
  | .str a, .str b => some (decide (a.cps.toList < b.cps.toList))
  | .tup a, .tup b => match asInts a, asInts b with
    | some x, some y => some (HT.lexLt x y)
    | _, _ => none
  | _, _ => none
def flatD : D → Bool
  | .non => true
  | .bl _ => true
  | .int _ => true
  | .str _ => true
  | _ => false
def eqFlat : D → D → Bool
  | .non, .non => true
  | .bl a, .bl b => a == b
  | .bl a, .int b => (if a then 1 else 0) == b
  | .int a, .bl b => a == (if b then 1 else 0)
  | .int a, .int b => a == b
  | .str a, .str b => a == b
  | _, _ => false
theorem sign_eq {a : Str} (h : a.cps.toList.length = 1) : a = ⟨#[a.cps.toList.headD 0]⟩ := by
  obtain ⟨⟨l⟩⟩ := a
  cases l with
  | nil => simp at h
  | cons x r => cases r with
    | nil => rfl
    | cons y r => simp at h
def keyOf : D → Option L2.Key
  | .int i => some (.inl i)
  | .str z => some (.inr z)
  | _ => none
def keysOf : List D → Option (List L2.Key)
  | [] => some []
  | x :: r => match keyOf x, keysOf r with
    | some k, some ks => some (k :: ks)
    | _, _ => none
def dVal {κ : Type} [DecidableEq κ] (kvs : List (κ × D)) (k : κ) : Option D := (kvs.find? fun kv => decide (kv.1 = k)).map (·.2)
def dPut {κ : Type} [DecidableEq κ] (kvs : List (κ × D)) (k : κ) (v : D) : List (κ × D) :=
  if kvs.any fun kv => decide (kv.1 = k) then kvs.map fun kv => if kv.1 = k then (kv.1, v) else kv else kvs ++ [(k, v)]
def inK (kvs : List (L2.Key × D)) (x : D) : Option Bool := (keyOf x).map fun k => (dVal kvs k).isSome
def inT (kvs : List (List L2.Key × D)) : D → Option Bool
  | .tup xs => (keysOf xs).map fun k => (dVal kvs k).isSome
  | _ => none
def inD (x y : D) : Option Bool := match y with
  | .dK true kvs => inK kvs x
  | .dT true kvs => inT kvs x
  | .lst _ xs => (match toPy x, toPys xs with
    | some d, some ds => if SeqAt.shaped d && SeqAt.shaped (.list ds) then some (ds.any fun z => PyData.eqv z d) else none
    | _, _ => none)
  | .tup xs => if flatD x && xs.all flatD then some (xs.any fun e => eqFlat e x) else (match toPy x, toPys xs with
    | some d, some ds => if SeqAt.shaped d && SeqAt.shaped (.tuple ds) then some (ds.any fun z => PyData.eqv z d) else none
    | _, _ => none)
  | .str z => (match x with
    | .str a => if a.cps.toList.length = 1 then some (decide (a.cps.toList.headD 0 ∈ z.cps.toList)) else none
    | _ => none)
  | _ => none
def isD (x y : D) : Option Bool := match x, y with
  | .bl a, .bl b => some (decide (a = b))
  | .non, .non => some true
  | .bl _, .non => some false
  | .int _, .non => some false
  | .str _, .non => some false
  | .tup _, .non => some false
  | .lst _ _, .non => some false
  | .ins _ _, .non => some false
  | .exc _ _, .non => some false
  | _, _ => none
def cmpD (o : CmpOp) (x y : D) : M D := match o with
  | .Eq => (ofOpt (eqD x y)).bind fun b => pure (.bl b)
  | .NotEq => (ofOpt (eqD x y)).bind fun b => pure (.bl (!b))
  | .Lt => (ofOpt (ltD x y)).bind fun b => pure (.bl b)
  | .Gt => (match x, y with
    | .int i, .int j => pure (.bl (decide (j < i)))
    | _, _ => stuck)
  | .LtE => (match x, y with
    | .int i, .int j => pure (.bl (decide (i ≤ j)))
    | _, _ => stuck)
  | .GtE => (match x, y with
    | .int i, .int j => pure (.bl (decide (j ≤ i)))
    | _, _ => stuck)
  | .In => (ofOpt (inD x y)).bind fun b => pure (.bl b)
  | .NotIn => (ofOpt (inD x y)).bind fun b => pure (.bl (!b))
  | .Is => (ofOpt (isD x y)).bind fun b => pure (.bl b)
  | .IsNot => (ofOpt (isD x y)).bind fun b => pure (.bl (!b))
def truth : D → Option Bool
  | .non => some false
  | .bl b => some b
  | .int i => some (i != 0)
  | .str x => if x.length ≤ LINE then some ((x.length : Int) != 0) else none
  | .tup xs => some (!xs.isEmpty)
  | .lst _ xs => some (!xs.isEmpty)
  | .ro xs => some (!xs.isEmpty)
  | _ => none
def truM (x : D) : M Bool := ofOpt (truth x)
def locAt (n : Nat) (i : Int) : M D := fun s => (ofOpt ((s[n]?).bind fun xs => L2.atI xs i)) s
def subD (x i : D) : M D := match x, i with
  | .str z, .int i => if z.length ≤ LINE then ofOpt ((L2.atI z.cps.toList i).map fun c => .str ⟨#[c]⟩) else stuck
  | .tup xs, .int i => ofOpt (L2.atI xs i)
  | .lst _ xs, .int i => ofOpt (L2.atI xs i)
  | .ro xs, .int i => ofOpt (L2.atI xs i)
  | .loc n, .int i => locAt n i
  | _, _ => stuck
def cutD (xs : List D) (lo hi : Option Int) : List D := (xs.drop (HT.sIx xs.length 0 lo)).take (HT.sIx xs.length xs.length hi - HT.sIx xs.length 0 lo)
def sliceD (x : D) (lo hi : Option Int) : M D := match x with
  | .tup xs => pure (.tup (cutD xs lo hi))
  | .lst _ xs => pure (.lst true (cutD xs lo hi))
  | .ro xs => pure (.lst true (cutD xs lo hi))
  | _ => stuck
def insI (x : Int) : List Int → List Int
  | [] => [x]
  | y :: r => if x ≤ y then x :: y :: r else y :: insI x r
def sortI : List Int → List Int
  | [] => []
  | x :: r => insI x (sortI r)
def insS (x : Str) : List Str → List Str
  | [] => [x]
  | y :: r => if PySem.Spec.ltCps y.cps.toList x.cps.toList then y :: insS x r else x :: y :: r
def sortS : List Str → List Str
  | [] => []
  | x :: r => insS x (sortS r)
def bLen : List D → M D
  | [.str x] => if x.length ≤ LINE then pure (.int x.length) else stuck
  | [x] => (ofOpt (asSeq x)).bind fun xs => pure (.int xs.length)
  | _ => stuck
def bAbs : List D → M D
  | [.int i] => pure (.int (if i < 0 then -i else i))
  | _ => stuck
def bMin : List D → M D
  | [.int i, .int j] => pure (.int (if j < i then j else i))
  | _ => stuck
def bMax : List D → M D
  | [.int i, .int j] => pure (.int (if j > i then j else i))
  | _ => stuck
def bInt : List D → M D
  | [.int i] => pure (.int i)
  | [.bl b] => pure (.int (if b then 1 else 0))
  | _ => stuck
def bBool : List D → M D
  | [.int i] => pure (.bl (i != 0))
  | [.bl b] => pure (.bl b)
  | _ => stuck
def bSum : List D → M D
  | [.lst _ xs] => (ofOpt (asInts xs)).bind fun ns => pure (.int ns.sum)
  | _ => stuck
def bAny : List D → M D
  | [.lst _ xs] => (ofOpt (asBls xs)).bind fun bs => pure (.bl (bs.any id))
  | _ => stuck
def bAll : List D → M D
  | [.lst _ xs] => (ofOpt (asBls xs)).bind fun bs => pure (.bl (bs.all id))
  | _ => stuck
def bTuple : List D → M D
  | [x] => (ofOpt (asSeq x)).bind fun xs => pure (.tup xs)
  | _ => stuck
def bList : List D → M D
  | [x] => (ofOpt (asSeq x)).bind fun xs => pure (.lst true xs)
  | _ => stuck
def sortD (xs : List D) : Option (List D) := match asInts xs with
  | some ns => some ((sortI ns).map .int)
  | none => (match asStrs xs with
    | some ns => if ns.length < 64 then some ((sortS ns).map .str) else none
    | none => none)
def bSorted : List D → M D
  | [.lst _ xs] => (ofOpt (sortD xs)).bind fun ys => pure (.lst true ys)
  | _ => stuck
def bStr : List D → M D
  | [.int i] => if i.natAbs.log2 < 1920 then pure (.str (toString i)) else stuck
  | [.str x] => pure (.str x)
  | _ => stuck
def bDivmod : List D → M D
  | [.int i, .int j] => if pyDiv i j then pure (.tup [.int (i / j), .int (i % j)]) else stuck
  | _ => stuck
def bfD : Bf → List D → M D
  | .len => bLen
  | .abs => bAbs
  | .min2 => bMin
  | .max2 => bMax
  | .int1 => bInt
  | .bool1 => bBool
  | .sum => bSum
  | .any => bAny
  | .all => bAll
  | .tuple => bTuple
  | .list => bList
  | .sorted => bSorted
  | .str1 => bStr
  | .divmod => bDivmod
def mBits : D → List D → M D
  | .int i, [] => pure (.int (Builtin.Int.intBits i))
  | _, _ => stuck
def mIndex : D → List D → M D
  | .lst _ xs, [y] => (ofOpt (toPy y)).bind fun d => (ofOpt (toPys xs)).bind fun es => (need (SeqAt.shaped d && SeqAt.shaped (.list es))).bind fun _ => (ofOpt (es.findIdx? fun z => PyData.eqv z d)).bind fun j => pure (.int j)
  | _, _ => stuck
def bmD : Bm → D → List D → M D
  | .bitLength => mBits
  | .index => mIndex
  | _ => fun _ _ => stuck
/-- the items that a walk yields -/
def asWalk : D → Option (List D)
  | .str z => some (z.cps.toList.map fun c => .str ⟨#[c]⟩)
  | x => asSeq x
def itSeq : List D → M (List D)
  | [x] => ofOpt (asWalk x)
  | _ => stuck
def itR1 : List D → M (List D)
  | [.int j] => do need (decide (-(2 ^ 62) ≤ j ∧ j < 2 ^ 62)); pure ((List.range j.toNat).map fun (n : Nat) => .int n)
  | _ => stuck
def itR2 : List D → M (List D)
  | [.int i, .int j] => do need (decide (-(2 ^ 62) ≤ i ∧ i < 2 ^ 62 ∧ -(2 ^ 62) ≤ j ∧ j < 2 ^ 62)); pure ((List.range (j - i).toNat).map fun (n : Nat) => .int (i + n))
  | _ => stuck
def itR3 : List D → M (List D)
  | [.int i, .int j, .int c] => do need (decide (c = -1 ∧ -(2 ^ 62) ≤ i ∧ i < 2 ^ 62 ∧ -(2 ^ 62) ≤ j ∧ j < 2 ^ 62)); pure ((List.range (i - j).toNat).map fun (n : Nat) => .int (i + n * c))
  | _ => stuck
def itEnum : List D → M (List D)
  | [.lst _ xs] => pure (xs.zipIdx.map fun p => .tup [.int p.2, p.1])
  | _ => stuck
def itZip : List D → M (List D)
  | [.lst _ xs, .lst _ ys] => pure ((xs.zip ys).map fun p => .tup [p.1, p.2])
  | [.tup xs, .tup ys] => pure ((xs.zip ys).map fun p => .tup [p.1, p.2])
  | _ => stuck
def itRev : List D → M (List D)
  | [x] => ofOpt ((asSeq x).map List.reverse)
  | _ => stuck
def itD : Itb → List D → M (List D)
  | .seq => itSeq
  | .range1 => itR1
  | .range2 => itR2
  | .range3 => itR3
  | .enum => itEnum
  | .zip => itZip
  | .rev => itRev
def isiD (x : D) (t : Ty) : Option Bool := match x, t with
  | .non, _ => some false
  | .bl _, .bool => some true
  | .bl _, .int => some true
  | .bl _, _ => some false
  | .int _, .int => some true
  | .int _, _ => some false
  | .str _, .str => some true
  | .str _, _ => some false
  | .tup _, .tuple => some true
  | .tup _, _ => some false
  | .lst _ _, .list => some true
  | .lst _ _, _ => some false
  | .ins c _, .cls d => some (decide (c = d))
  | _, _ => none
def isiDs (x : D) : List Ty → Option Bool
  | [] => some false
  | t :: r => match isiD x t with
    | some true => some true
    | some false => isiDs x r
    | none => none

mutual
/-- nothing borrowed in it -/
def nob : D → Bool
  | .tup xs => nobs xs
  | .lst fz xs => fz && nobs xs
  | .ro xs => nobs xs
  | .dK _ _ => false
  | .dT _ _ => false
  | .ins _ fs => nobf fs
  | .exc _ fs => nobf fs
  | _ => true
def nobs : List D → Bool
  | [] => true
  | x :: xs => nob x && nobs xs
def nobf : List (Nat × D) → Bool
  | [] => true
  | (_, x) :: xs => nob x && nobf xs
end

/-! ### the evaluator -/
structure Cl where
  call : Nat → List D → M D
  init : Nat → Option (List Nat)
  tab : Str → List (Str × D)

def wipe (env : Env) : List Nat → Env
  | [] => env
  | v :: vs => (wipe env vs).set v .un
/-- nothing is raised within -/
def noX {α : Type} (m : M α) : M α := fun s => match m s with
  | .ok p => .ok p
  | _ => .stuck
def mapO (f : D → M (Option D)) : List D → M (List D)
  | [] => pure []
  | x :: xs => (f x).bind fun o => (mapO f xs).bind fun r => match o with
    | some y => pure (y :: r)
    | none => pure r
def flatO (f : D → M (List D)) : List D → M (List D)
  | [] => pure []
  | x :: xs => (f x).bind fun o => (flatO f xs).bind fun r => pure (o ++ r)
def setSub (x k v : D) : M Unit := match x, k with
  | .loc n, .int i => fun s => match s[n]? with
    | some xs => (match L2.ixN xs.length i with
      | some j => if nob v then .ok ((), s.set n (xs.set j v)) else .stuck
      | none => .stuck)
    | none => .stuck
  | _, _ => stuck
def foldD (f : D → M (Option (List L2.Key × D))) : List D → List (List L2.Key × D) → M (List (List L2.Key × D))
  | [], acc => pure acc
  | x :: xs, acc => (f x).bind fun o => match o with
    | some p => (need (decide (acc.length < LINE))).bind fun _ => foldD f xs (dPut acc p.1 p.2)
    | none => foldD f xs acc
def keyT : D → Option (List L2.Key)
  | .tup xs => keysOf xs
  | _ => none
mutual
def evE (c : Cl) : E → Env → M D
  | .nev, _ => stuck
  | .kget t a b, env => (evE c a env).bind fun x => (evE c b env).bind fun y => match x with
    | .str z => pure (((c.tab t).lookup z).getD y)
    | _ => stuck
  | .dcT t k it cs e f own, env => (evEs c it env).bind fun ds => (itD k ds).bind fun items =>
      (noX (foldD (fun d => (asgT c t d (wipe env own)).bind fun env1 => (evCs c cs env1).bind fun b => if b then (evE c e env1).bind fun y => (evE c f env1).bind fun z => (ofOpt (keyT y)).bind fun k => pure (some (k, z)) else pure none) items [])).bind fun kvs =>
      (need (lenOk kvs.length)).bind fun _ => pure (.dT true kvs)
  | .var i, env => (match env[i]? with
    | some (.val d) => pure d
    | _ => stuck)
  | .own i, env => (match env[i]? with
    | some (.own xs) => pure (.lst false xs)
    | some (.ownK kvs) => pure (.dK false kvs)
    | some (.ownT kvs) => pure (.dT false kvs)
    | _ => stuck)
  | .int i, _ => pure (.int i)
  | .bl b, _ => pure (.bl b)
  | .non, _ => pure .non
  | .str x, _ => pure (.str x)
  | .glob d, _ => pure d
  | .bin o a b, env => (evE c a env).bind fun x => (evE c b env).bind fun y => binD o x y
  | .neg a, env => (evE c a env).bind fun x => match x with
    | .int i => pure (.int (-i))
    | _ => stuck
  | .inv a, env => (evE c a env).bind fun x => match x with
    | .int i => pure (.int (Builtin.bitNot i))
    | _ => stuck
  | .not a, env => (evE c a env).bind fun x => (truM x).bind fun b => pure (.bl (!b))
  | .cmp o a b, env => (evE c a env).bind fun x => (evE c b env).bind fun y => cmpD o x y
  | .cmp2 o o' a b e, env => (evE c a env).bind fun x => (evE c b env).bind fun y => (cmpD o x y).bind fun r => match r with
    | .bl true => (evE c e env).bind fun z => cmpD o' y z
    | .bl false => pure (.bl false)
    | _ => stuck
  | .and a b, env => (evE c a env).bind fun x => (truM x).bind fun k => if k then evE c b env else pure x
  | .or a b, env => (evE c a env).bind fun x => (truM x).bind fun k => if k then pure x else evE c b env
  | .ite t a b, env => (evE c t env).bind fun x => (truM x).bind fun k => if k then evE c a env else evE c b env
  | .tup es, env => (evEs c es env).bind fun ds => (need (lenOk ds.length)).bind fun _ => pure (.tup ds)
  | .lst es, env => (evEs c es env).bind fun ds => (need (lenOk ds.length)).bind fun _ => pure (.lst true ds)
  | .sub a i, env => (evE c a env).bind fun x => (evE c i env).bind fun y => subD x y
  | .slice a lo hi, env => (evE c a env).bind fun x => (evO c lo env).bind fun l => (evO c hi env).bind fun h => sliceD x l h
  | .fld a n, env => (evE c a env).bind fun x => match x with
    | .ins _ fs => ofOpt (fs.lookup n)
    | _ => stuck
  | .call f es, env => (evEs c es env).bind fun ds => c.call f ds
  | .callB f es, env => (evEs c es env).bind fun ds => (noX (c.call f ds)).bind fun d => (need (nob d)).bind fun _ => pure d
  | .make k es, env => (evEs c es env).bind fun ds => (match c.init k with
    | some ns => if ns.length = ds.length then pure (.ins k (ns.zip ds)) else stuck
    | none => stuck)
  | .isi a ts, env => (evE c a env).bind fun x => (ofOpt (isiDs x ts)).bind fun b => pure (.bl b)
  | .bi b es, env => (evEs c es env).bind fun ds => bfD b ds
  | .bm b a es, env => (evE c a env).bind fun x => (noX (evEs c es env)).bind fun ds => bmD b x ds
  | .lc t k it cs e own, env => (evEs c it env).bind fun ds => (itD k ds).bind fun items =>
      (noX (mapO (fun d => (asgT c t d (wipe env own)).bind fun env1 => (evCs c cs env1).bind fun b => if b then (evE c e env1).bind fun y => pure (some y) else pure none) items)).bind fun ys =>
      (need (lenOk ys.length)).bind fun _ => pure (.lst true ys)
  | .lc2 t k it cs t1 k1 it1 cs1 e own own1, env => (evEs c it env).bind fun ds => (itD k ds).bind fun items =>
      (noX (flatO (fun d => (asgT c t d (wipe env own)).bind fun env1 => (evCs c cs env1).bind fun b =>
        if b then (evEs c it1 env1).bind fun ds1 => (itD k1 ds1).bind fun items1 =>
          mapO (fun d1 => (asgT c t1 d1 (wipe env1 own1)).bind fun env2 => (evCs c cs1 env2).bind fun b2 => if b2 then (evE c e env2).bind fun y => pure (some y) else pure none) items1
        else pure []) items)).bind fun ys =>
      (need (lenOk ys.length)).bind fun _ => pure (.lst true ys)
def evEs (c : Cl) : Es → Env → M (List D)
  | .nil, _ => pure []
  | .cons e r, env => (evE c e env).bind fun x => (evEs c r env).bind fun xs => pure (x :: xs)
  | .star e r, env => (evE c e env).bind fun x => (ofOpt (asSeq x)).bind fun xs => (evEs c r env).bind fun ys => pure (xs ++ ys)
/-- a comprehension's tests -/
def evCs (c : Cl) : Es → Env → M Bool
  | .nil, _ => pure true
  | .cons e r, env => (evE c e env).bind fun x => (truM x).bind fun b => if b then evCs c r env else pure false
  | .star _ _, _ => stuck
def evO (c : Cl) : Op → Env → M (Option Int)
  | .no, _ => pure none
  | .ex e, env => (evE c e env).bind fun x => match x with
    | .int i => pure (some i)
    | _ => stuck
def asgT (c : Cl) : T → D → Env → M Env
  | .nm i, d, env => if i < env.length then pure (env.set i (.val d)) else stuck
  | .tp ts, d, env => (match d with
    | .tup xs => asgTs c ts xs env
    | _ => stuck)
  | .sub a k, d, env => (noX (evE c a env)).bind fun x => (noX (evE c k env)).bind fun y => (setSub x y d).bind fun _ => pure env
def asgTs (c : Cl) : Ts → List D → Env → M Env
  | .nil, xs, env => (match xs with
    | [] => pure env
    | _ => stuck)
  | .cons t r, xs, env => (match xs with
    | x :: xs => (asgT c t x env).bind fun env1 => asgTs c r xs env1
    | _ => stuck)
end

def tsLen : Ts → Nat
  | .nil => 0
  | .cons _ r => tsLen r + 1
inductive Fl where
  | nx | rt (d : D) | bk | ct
def forL (f : D → Env → M (Fl × Env)) : List D → Env → M (Fl × Env)
  | [], env => pure (.nx, env)
  | x :: xs, env => (f x env).bind fun r => match r with
    | (.nx, env1) => forL f xs env1
    | (.ct, env1) => forL f xs env1
    | (.bk, env1) => pure (.nx, env1)
    | (.rt d, env1) => pure (.rt d, env1)
def whileL (t : Env → M Bool) (f : Env → M (Fl × Env)) : Nat → Env → M (Fl × Env)
  | 0, _ => stuck
  | n + 1, env => (t env).bind fun b => if b then (f env).bind fun r => match r with
    | (.nx, env1) => whileL t f n env1
    | (.ct, env1) => whileL t f n env1
    | (.bk, env1) => pure (.nx, env1)
    | (.rt d, env1) => pure (.rt d, env1)
    else pure (.nx, env)
def newLoc (ds : List D) : M D := fun s => if nobs ds then .ok (.loc s.length, s ++ [ds]) else .stuck
mutual
def evS (c : Cl) (w : Nat) : S → Env → M (Fl × Env)
  | .nev, _ => stuck
  | .asg t e, env => (evE c e env).bind fun x => (asgT c t x env).bind fun env1 => pure (.nx, env1)
  | .asgOwn i e, env => (evE c e env).bind fun x => (match x with
    | .lst true xs => if i < env.length then pure (.nx, env.set i (.own xs)) else stuck
    | _ => stuck)
  | .freeze i, env => (match env[i]? with
    | some (.own xs) => pure (.nx, env.set i (.val (.lst true xs)))
    | some (.ownK xs) => pure (.nx, env.set i (.val (.dK true xs)))
    | some (.ownT xs) => pure (.nx, env.set i (.val (.dT true xs)))
    | _ => stuck)
  | .app i e, env => (match env[i]? with
    | some (.own xs) => (evE c e env).bind fun x => (need (decide (xs.length < LINE))).bind fun _ => pure (.nx, env.set i (.own (xs ++ [x])))
    | _ => stuck)
  | .put i k e, env => (evE c e env).bind fun x => (match env[i]? with
    | some (.own xs) => (evE c k env).bind fun y => (match y with
      | .int j => (ofOpt (L2.ixN xs.length j)).bind fun n => pure (.nx, env.set i (.own (xs.set n x)))
      | _ => stuck)
    | _ => stuck)
  | .expr e, env => (evE c e env).bind fun _ => pure (.nx, env)
  | .ret e, env => (evE c e env).bind fun x => pure (.rt x, env)
  | .retN, env => pure (.rt .non, env)
  | .retLoc es, env => (evEs c es env).bind fun ds => (need (lenOk ds.length)).bind fun _ => (newLoc ds).bind fun d => pure (.rt d, env)
  | .ite t a b, env => (evE c t env).bind fun x => (truM x).bind fun k => if k then evSs c w a env else evSs c w b env
  | .loop t k it b, env => (evEs c it env).bind fun ds => (itD k ds).bind fun items => forL (fun d env1 => (asgT c t d env1).bind fun env2 => evSs c w b env2) items env
  | .whil t b, env => whileL (fun env1 => (evE c t env1).bind truM) (evSs c w b) w env
  | .brk, env => pure (.bk, env)
  | .cont, env => pure (.ct, env)
  | .pass, env => pure (.nx, env)
def evSs (c : Cl) (w : Nat) : Ss → Env → M (Fl × Env)
  | .nil, env => pure (.nx, env)
  | .cons s r, env => (evS c w s env).bind fun x => match x with
    | (.nx, env1) => evSs c w r env1
    | (.rt d, env1) => pure (.rt d, env1)
    | (.bk, env1) => pure (.bk, env1)
    | (.ct, env1) => pure (.ct, env1)
end

/-- a def: how many parameters, how many slots, its body -/
structure Fd where
  np : Nat
  ns : Nat
  body : Ss
structure Pg where
  fd : Nat → Option Fd
  init : Nat → Option (List Nat)
  tab : Str → List (Str × D)
def retOf : Fl × Env → M D
  | (.rt d, _) => pure d
  | (.nx, _) => pure .non
  | _ => stuck
/-- a def called, k calls deep at most, w turns of a while at most -/
def callF (p : Pg) (w : Nat) : Nat → Nat → List D → M D
  | 0, _, _ => stuck
  | k + 1, f, ds => match p.fd f with
    | some fd => if ds.length = fd.np ∧ fd.np ≤ fd.ns then (evSs ⟨callF p w k, p.init, p.tab⟩ w fd.body (ds.map .val ++ List.replicate (fd.ns - fd.np) .un)).bind retOf else stuck
    | none => stuck
end Bc

set_option linter.all false
set_option maxRecDepth 100000
set_option maxHeartbeats 1000000
namespace Bc
set_option autoImplicit false
open PySem PySem.Spec L2

/-- where things stand: classes, defs, attributes' names -/
structure Sx where
  K : PySem.W.Frag
  ca : Nat → Addr
  fa : Nat → Addr
  an : Nat → Str
  xc : Nat → Value
/-- the frozen part, the borrowed part, where the store's lists stand -/
structure Rl where
  Fz : Hp
  Bz : Hp
  mu : List Addr

mutual
inductive Rep (X : Sx) (R : Rl) : V → D → Prop
  | non : Rep X R .non .non
  | bl (b : Bool) : Rep X R (.bl b) (.bl b)
  | int (i : Int) : Rep X R (.int i) (.int i)
  | str (x : Str) : Rep X R (.str x) (.str x)
  | tup {a : Addr} {vs : List V} {ds : List D} : R.Fz a = some (.tup vs) → Reps X R vs ds → Rep X R (.ref a) (.tup ds)
  | dK {a : Addr} {vs : List (L2.Key × V)} {ds : List (L2.Key × D)} : R.Fz a = some (.dK vs) → Repk X R vs ds → Rep X R (.ref a) (.dK true ds)
  | dT {a : Addr} {vs : List (List L2.Key × V)} {ds : List (List L2.Key × D)} : R.Fz a = some (.dT vs) → Rept X R vs ds → Rep X R (.ref a) (.dT true ds)
  | lst {a : Addr} {vs : List V} {ds : List D} : R.Fz a = some (.lst vs) → Reps X R vs ds → Rep X R (.ref a) (.lst true ds)
  | bor {a : Addr} {vs : List V} {ds : List D} : R.Bz a = some (.lst vs) → Reps X R vs ds → Rep X R (.ref a) (.lst false ds)
  | ro {a : Addr} {vs : List V} {ds : List D} : SqL X.K R.Fz a vs → Reps X R vs ds → Rep X R (.ref a) (.ro ds)
  | ins {a dx : Addr} {c : Nat} {fs : List (Str × V)} {ds : List (Nat × D)} : R.Fz a = some (.ins (X.ca c) dx fs) → Repf X R fs ds → Rep X R (.ref a) (.ins c ds)
  | loc {n : Nat} {a : Addr} : R.mu[n]? = some a → Rep X R (.ref a) (.loc n)
inductive Reps (X : Sx) (R : Rl) : List V → List D → Prop
  | nil : Reps X R [] []
  | cons {v : V} {vs : List V} {d : D} {ds : List D} : Rep X R v d → Reps X R vs ds → Reps X R (v :: vs) (d :: ds)
inductive Repk (X : Sx) (R : Rl) : List (L2.Key × V) → List (L2.Key × D) → Prop
  | nil : Repk X R [] []
  | cons {k : L2.Key} {v : V} {vs : List (L2.Key × V)} {d : D} {ds : List (L2.Key × D)} : Rep X R v d → Repk X R vs ds → Repk X R ((k, v) :: vs) ((k, d) :: ds)
inductive Rept (X : Sx) (R : Rl) : List (List L2.Key × V) → List (List L2.Key × D) → Prop
  | nil : Rept X R [] []
  | cons {k : List L2.Key} {v : V} {vs : List (List L2.Key × V)} {d : D} {ds : List (List L2.Key × D)} : Rep X R v d → Rept X R vs ds → Rept X R ((k, v) :: vs) ((k, d) :: ds)
inductive Repf (X : Sx) (R : Rl) : List (Str × V) → List (Nat × D) → Prop
  | nil : Repf X R [] []
  | cons {x : Str} {v : V} {fs : List (Str × V)} {n : Nat} {d : D} {ds : List (Nat × D)} : x = X.an n → Rep X R v d → Repf X R fs ds → Repf X R ((x, v) :: fs) ((n, d) :: ds)
end

/-! ### growing -/
def HLe (H H' : Hp) : Prop := ∀ a o, H a = some o → H' a = some o
theorem HLe.refl (H : Hp) : HLe H H := fun _ _ e => e
theorem HLe.trans {A B C : Hp} (h : HLe A B) (k : HLe B C) : HLe A C := fun a o e => k a o (h a o e)
structure RLe (R R' : Rl) : Prop where
  fz : HLe R.Fz R'.Fz
  bz : HLe R.Bz R'.Bz
  mu : ∀ (n : Nat) (a : Addr), R.mu[n]? = some a → R'.mu[n]? = some a
theorem RLe.refl (R : Rl) : RLe R R := ⟨HLe.refl _, HLe.refl _, fun _ _ e => e⟩
theorem RLe.trans {A B C : Rl} (h : RLe A B) (k : RLe B C) : RLe A C := ⟨h.fz.trans k.fz, h.bz.trans k.bz, fun n a e => k.mu n a (h.mu n a e)⟩

theorem sqT_le {K : PySem.W.Frag} {H H' : Hp} {a : Addr} {xs : List V} (e : HLe H H') (h : SqT K H a xs) : SqT K H' a xs := by
  rcases h with (h | ⟨o, h⟩) | h
  · exact .inl (.inl (e _ _ h))
  · exact .inl (.inr ⟨o, e _ _ h⟩)
  · exact .inr h
theorem sqL_le {K : PySem.W.Frag} {H H' : Hp} {a : Addr} {xs : List V} (e : HLe H H') (h : SqL K H a xs) : SqL K H' a xs := by
  rcases h with (h | ⟨o, h⟩) | h
  · exact .inl (.inl (e _ _ h))
  · exact .inl (.inr ⟨o, e _ _ h⟩)
  · exact .inr h

section
variable {X : Sx} {R R' : Rl}
mutual
theorem Rep.mono (le : RLe R R') : ∀ (d : D) {v : V}, Rep X R v d → Rep X R' v d
  | .non, _, h => by cases h; exact .non
  | .bl b, _, h => by cases h; exact .bl b
  | .int i, _, h => by cases h; exact .int i
  | .str x, _, h => by cases h; exact .str x
  | .tup ds, _, h => by cases h with | tup e r => exact .tup (le.fz _ _ e) (Reps.mono le ds r)
  | .lst true ds, _, h => by cases h with | lst e r => exact .lst (le.fz _ _ e) (Reps.mono le ds r)
  | .lst false ds, _, h => by cases h with | bor e r => exact .bor (le.bz _ _ e) (Reps.mono le ds r)
  | .ro ds, _, h => by cases h with | ro e r => exact .ro (sqL_le le.fz e) (Reps.mono le ds r)
  | .dK true ds, _, h => by cases h with | dK e r => exact .dK (le.fz _ _ e) (Repk.mono le ds r)
  | .dT true ds, _, h => by cases h with | dT e r => exact .dT (le.fz _ _ e) (Rept.mono le ds r)
  | .dK false _, _, h => by cases h
  | .dT false _, _, h => by cases h
  | .ins c ds, _, h => by cases h with | ins e r => exact .ins (le.fz _ _ e) (Repf.mono le ds r)
  | .exc _ _, _, h => by cases h
  | .cls _, _, h => by cases h
  | .fn _, _, h => by cases h
  | .loc n, _, h => by cases h with | loc e => exact .loc (le.mu _ _ e)
theorem Reps.mono (le : RLe R R') : ∀ (ds : List D) {vs : List V}, Reps X R vs ds → Reps X R' vs ds
  | [], _, h => by cases h; exact .nil
  | d :: ds, _, h => by cases h with | cons a b => exact .cons (Rep.mono le d a) (Reps.mono le ds b)
theorem Repk.mono (le : RLe R R') : ∀ (ds : List (L2.Key × D)) {vs : List (L2.Key × V)}, Repk X R vs ds → Repk X R' vs ds
  | [], _, h => by cases h; exact .nil
  | (n, d) :: ds, _, h => by cases h with | cons a b => exact .cons (Rep.mono le d a) (Repk.mono le ds b)
theorem Rept.mono (le : RLe R R') : ∀ (ds : List (List L2.Key × D)) {vs : List (List L2.Key × V)}, Rept X R vs ds → Rept X R' vs ds
  | [], _, h => by cases h; exact .nil
  | (n, d) :: ds, _, h => by cases h with | cons a b => exact .cons (Rep.mono le d a) (Rept.mono le ds b)
theorem Repf.mono (le : RLe R R') : ∀ (ds : List (Nat × D)) {vs : List (Str × V)}, Repf X R vs ds → Repf X R' vs ds
  | [], _, h => by cases h; exact .nil
  | (n, d) :: ds, _, h => by cases h with | cons e a b => exact .cons e (Rep.mono le d a) (Repf.mono le ds b)
end
mutual
/-- what has nothing borrowed stands without the borrowed part -/
theorem Rep.nob (B : Hp) : ∀ (d : D) {v : V}, Bc.nob d = true → Rep X R v d → Rep X { R with Bz := B } v d
  | .non, _, _, h => by cases h; exact .non
  | .bl b, _, _, h => by cases h; exact .bl b
  | .int i, _, _, h => by cases h; exact .int i
  | .str x, _, _, h => by cases h; exact .str x
  | .tup ds, _, n, h => by cases h with | tup e r => exact .tup e (Reps.nob B ds (by simpa [Bc.nob] using n) r)
  | .lst true ds, _, n, h => by cases h with | lst e r => exact .lst e (Reps.nob B ds (by simpa [Bc.nob] using n) r)
  | .lst false ds, _, n, h => by simp [Bc.nob] at n
  | .ro ds, _, n, h => by cases h with | ro e r => exact .ro e (Reps.nob B ds (by simpa [Bc.nob] using n) r)
  | .dK _ _, _, n, h => by simp [Bc.nob] at n
  | .dT _ _, _, n, h => by simp [Bc.nob] at n
  | .ins c ds, _, n, h => by cases h with | ins e r => exact .ins e (Repf.nob B ds (by simpa [Bc.nob] using n) r)
  | .exc _ _, _, _, h => by cases h
  | .cls _, _, _, h => by cases h
  | .fn _, _, _, h => by cases h
  | .loc n, _, _, h => by cases h with | loc e => exact .loc e
theorem Reps.nob (B : Hp) : ∀ (ds : List D) {vs : List V}, Bc.nobs ds = true → Reps X R vs ds → Reps X { R with Bz := B } vs ds
  | [], _, _, h => by cases h; exact .nil
  | d :: ds, _, n, h => by
    cases h with
    | cons a b =>
      have n2 : Bc.nob d = true ∧ Bc.nobs ds = true := by simpa [Bc.nobs] using n
      exact .cons (Rep.nob B d n2.1 a) (Reps.nob B ds n2.2 b)
theorem Repf.nob (B : Hp) : ∀ (ds : List (Nat × D)) {vs : List (Str × V)}, Bc.nobf ds = true → Repf X R vs ds → Repf X { R with Bz := B } vs ds
  | [], _, _, h => by cases h; exact .nil
  | (m, d) :: ds, _, n, h => by
    cases h with
    | cons e a b =>
      have n2 : Bc.nob d = true ∧ Bc.nobf ds = true := by simpa [Bc.nobf] using n
      exact .cons e (Rep.nob B d n2.1 a) (Repf.nob B ds n2.2 b)
end
theorem Reps.length : ∀ {vs : List V} {ds : List D}, Reps X R vs ds → vs.length = ds.length
  | _, _, .nil => rfl
  | _, _, .cons _ r => congrArg Nat.succ (Reps.length r)
theorem Reps.get : ∀ {vs : List V} {ds : List D} {i : Nat} {d : D}, Reps X R vs ds → ds[i]? = some d → ∃ v, vs[i]? = some v ∧ Rep X R v d
  | _, _, _, _, .nil, e => by simp at e
  | _, _, 0, _, .cons r _, e => by simp at e; subst e; exact ⟨_, rfl, r⟩
  | _, _, i + 1, _, .cons _ t, e => by
    obtain ⟨v, h1, h2⟩ := Reps.get (i := i) t (by simpa using e)
    exact ⟨v, by simpa using h1, h2⟩
theorem Reps.set {x : V} {u : D} (r : Rep X R x u) : ∀ {xs : List V} {us : List D} (i : Nat), Reps X R xs us → Reps X R (xs.set i x) (us.set i u)
  | _, _, _, .nil => .nil
  | _, _, 0, .cons _ t => .cons r t
  | _, _, i + 1, .cons q t => .cons q (Reps.set r i t)
theorem Reps.append : ∀ {xs ys : List V} {us ws : List D}, Reps X R xs us → Reps X R ys ws → Reps X R (xs ++ ys) (us ++ ws)
  | _, _, _, _, .nil, s => s
  | _, _, _, _, .cons r t, s => .cons r (Reps.append t s)
theorem Reps.take : ∀ {xs : List V} {us : List D} (n : Nat), Reps X R xs us → Reps X R (xs.take n) (us.take n)
  | _, _, 0, _ => .nil
  | _, _, _ + 1, .nil => .nil
  | _, _, n + 1, .cons r t => .cons r (Reps.take n t)
theorem Reps.drop : ∀ {xs : List V} {us : List D} (n : Nat), Reps X R xs us → Reps X R (xs.drop n) (us.drop n)
  | _, _, 0, r => r
  | _, _, _ + 1, .nil => .nil
  | _, _, n + 1, .cons _ t => Reps.drop n t
theorem Reps.reverse {xs : List V} {us : List D} (h : Reps X R xs us) : Reps X R xs.reverse us.reverse := by
  induction us generalizing xs with
  | nil => cases h; exact .nil
  | cons d ds ih =>
    cases h with
    | cons a b => rw [List.reverse_cons, List.reverse_cons]; exact (ih b).append (.cons a .nil)
theorem Reps.rep {xs : List V} {us : List D} (h : Reps X R xs us) : ∀ k : Nat, Reps X R (List.replicate k xs).flatten (List.replicate k us).flatten
  | 0 => .nil
  | k + 1 => by rw [List.replicate_succ, List.replicate_succ, List.flatten_cons, List.flatten_cons]; exact h.append (Reps.rep h k)
theorem Reps.ints : ∀ {ds : List D} {vs : List V} {ns : List Int}, Reps X R vs ds → asInts ds = some ns → vs = ns.map V.int
  | _, _, _, .nil, e => by cases e; rfl
  | _, _, ns, .cons (d := d) (ds := ds) r t, e => by
    cases r <;> try (simp [asInts] at e)
    rename_i i
    obtain ⟨ms, e1, e2⟩ := e
    subst e2
    rw [Reps.ints t e1]; rfl
theorem Reps.strs : ∀ {ds : List D} {vs : List V} {ns : List Str}, Reps X R vs ds → asStrs ds = some ns → vs = ns.map V.str
  | _, _, _, .nil, e => by cases e; rfl
  | _, _, ns, .cons (d := d) (ds := ds) r t, e => by
    cases r <;> try (simp [asStrs] at e)
    obtain ⟨ms, e1, e2⟩ := e
    subst e2
    rw [Reps.strs t e1]; rfl
theorem Reps.bls : ∀ {ds : List D} {vs : List V} {ns : List Bool}, Reps X R vs ds → asBls ds = some ns → vs = ns.map V.bl
  | _, _, _, .nil, e => by cases e; rfl
  | _, _, ns, .cons (d := d) (ds := ds) r t, e => by
    cases r <;> try (simp [asBls] at e)
    obtain ⟨ms, e1, e2⟩ := e
    subst e2
    rw [Reps.bls t e1]; rfl
theorem Reps.of_ints (ns : List Int) : Reps X R (ns.map V.int) (ns.map D.int) := by
  induction ns with
  | nil => exact .nil
  | cons n ns ih => exact .cons (.int n) ih
end

/-- the state's frozen and borrowed parts stand; the store's lists -/
structure StOk (X : Sx) (R : Rl) (H : Hp) (sto : Sto) : Prop where
  fz : HLe R.Fz H
  bz : HLe R.Bz H
  len : R.mu.length = sto.length
  nd : R.mu.Nodup
  at_ : ∀ (n : Nat) (a : Addr) (ds : List D), R.mu[n]? = some a → sto[n]? = some ds → R.Fz a = none ∧ R.Bz a = none ∧ nobs ds = true ∧ ∃ vs, H a = some (.lst vs) ∧ Reps X { R with Bz := fun _ => none } vs ds
structure Grow (R : Rl) (H : Hp) (R' : Rl) (H' : Hp) : Prop where
  le : RLe R R'
  eB : R'.Bz = R.Bz
  kept : ∀ a o, H a = some o → a ∉ R.mu → H' a = some o ∧ R'.Fz a = R.Fz a
  muN : ∀ a, a ∈ R'.mu → a ∈ R.mu ∨ H a = none
  there : ∀ a, a ∈ R.mu → H a ≠ none → H' a ≠ none
theorem Grow.refl (R : Rl) (H : Hp) : Grow R H R H := ⟨RLe.refl _, rfl, fun _ _ e _ => ⟨e, rfl⟩, fun _ h => .inl h, fun _ _ h => h⟩
theorem Grow.trans {R R1 R2 : Rl} {H H1 H2 : Hp} (g : Grow R H R1 H1) (k : Grow R1 H1 R2 H2) : Grow R H R2 H2 where
  le := g.le.trans k.le
  eB := k.eB.trans g.eB
  kept := fun a o e hm => by
    obtain ⟨e1, f1⟩ := g.kept a o e hm
    have hm1 : a ∉ R1.mu := fun h => by
      rcases g.muN a h with h | h
      · exact hm h
      · rw [e] at h; cases h
    obtain ⟨e2, f2⟩ := k.kept a o e1 hm1
    exact ⟨e2, f2.trans f1⟩
  muN := fun a h => by
    rcases k.muN a h with h | h
    · exact g.muN a h
    · by_cases hm : a ∈ R.mu
      · exact .inl hm
      · refine .inr ?_
        cases e : H a with
        | none => rfl
        | some o =>
          obtain ⟨e1, _⟩ := g.kept a o e hm
          rw [e1] at h; cases h
  there := fun a h e => k.there a (by
    obtain ⟨n, hn⟩ := List.getElem?_of_mem h
    exact List.mem_of_getElem? (g.le.mu n a hn)) (g.there a h e)

/-- a new object, frozen at once -/
def Rl.put (R : Rl) (p : Addr) (o : HO) : Rl := { R with Fz := upd R.Fz p o }
theorem fz_none {X : Sx} {R : Rl} {H : Hp} {sto : Sto} (S : StOk X R H sto) {p : Addr} (hp : H p = none) : R.Fz p = none := by
  cases e : R.Fz p with
  | none => rfl
  | some o => rw [S.fz p o e] at hp; cases hp
theorem put_le {R : Rl} {p : Addr} {o : HO} (hp : R.Fz p = none) : RLe R (R.put p o) := by
  refine ⟨fun a q e => ?_, HLe.refl _, fun _ _ e => e⟩
  show upd R.Fz p o a = some q
  rw [upd_ne (ne_of_none e hp)]; exact e
theorem put_grow {X : Sx} {R : Rl} {H : Hp} {sto : Sto} (S : StOk X R H sto) {p : Addr} {o : HO} (hp : H p = none) : Grow R H (R.put p o) (upd H p o) := by
  refine ⟨put_le (fz_none S hp), rfl, fun a q e _ => ?_, fun _ h => .inl h, fun a _ h => ?_⟩
  · have ne := ne_of_none e hp
    exact ⟨by rw [upd_ne ne]; exact e, upd_ne ne⟩
  · by_cases e : a = p
    · rw [e, upd_same]; intro z; cases z
    · rw [upd_ne e]; exact h
theorem put_st {X : Sx} {R : Rl} {H : Hp} {sto : Sto} (S : StOk X R H sto) {p : Addr} {o : HO} (hp : H p = none) : StOk X (R.put p o) (upd H p o) sto := by
  refine ⟨fun a q e => ?_, fun a q e => ?_, S.len, S.nd, fun n a ds e1 e2 => ?_⟩
  · have e : upd R.Fz p o a = some q := e
    by_cases h : a = p
    · subst h; rw [upd_same] at e ⊢; exact e
    · rw [upd_ne h] at e ⊢; exact S.fz a q e
  · rw [upd_ne (ne_of_none (S.bz a q e) hp)]; exact S.bz a q e
  · obtain ⟨f, b, nb, vs, e3, r⟩ := S.at_ n a ds e1 e2
    have ne := ne_of_none e3 hp
    refine ⟨?_, b, nb, vs, by rw [upd_ne ne]; exact e3, Reps.mono (R := { R with Bz := fun _ => none }) (R' := { R.put p o with Bz := fun _ => none }) ⟨(put_le (fz_none S hp)).fz, HLe.refl _, fun _ _ e => e⟩ _ r⟩
    show upd R.Fz p o a = none
    rw [upd_ne ne]; exact f

/-! ### the frame -/
def SlotOk (X : Sx) (R : Rl) (H : Hp) (ov : Option (Option V)) : Slot → Prop
  | .un => True
  | .val d => ∃ v, ov = some (some v) ∧ Rep X R v d
  | .own ds => ∃ a vs, ov = some (some (.ref a)) ∧ H a = some (.lst vs) ∧ R.Fz a = none ∧ R.Bz a = none ∧ a ∉ R.mu ∧ Reps X R vs ds
  | _ => False
def isOwn : Slot → Bool
  | .own _ => true
  | .ownK _ => true
  | .ownT _ => true
  | _ => false
structure EnvOk (X : Sx) (R : Rl) (H : Hp) (σ : St) (env : Env) : Prop where
  len : σ.length = env.length
  at_ : ∀ (i : Nat) (s : Slot), env[i]? = some s → SlotOk X R H (σ[i]?) s
  sep : ∀ (i j : Nat) (si sj : Slot) (a : Addr), env[i]? = some si → env[j]? = some sj → isOwn si = true → isOwn sj = true → σ[i]? = some (some (.ref a)) → σ[j]? = some (some (.ref a)) → i = j
theorem SlotOk.grow {X : Sx} {R R' : Rl} {H H' : Hp} {ov : Option (Option V)} {s : Slot} (g : Grow R H R' H') (h : SlotOk X R H ov s) : SlotOk X R' H' ov s := by
  cases s with
  | un => trivial
  | val d =>
    obtain ⟨v, e, r⟩ := h
    exact ⟨v, e, r.mono g.le⟩
  | own ds =>
    obtain ⟨a, vs, e, eh, f, b, m, r⟩ := h
    obtain ⟨k1, k2⟩ := g.kept a _ eh m
    refine ⟨a, vs, e, k1, k2.trans f, by rw [g.eB]; exact b, fun hm => ?_, r.mono g.le⟩
    rcases g.muN a hm with z | z
    · exact m z
    · rw [eh] at z; cases z
  | ownK _ => exact h.elim
  | ownT _ => exact h.elim
theorem EnvOk.grow {X : Sx} {R R' : Rl} {H H' : Hp} {σ : St} {env : Env} (g : Grow R H R' H') (h : EnvOk X R H σ env) : EnvOk X R' H' σ env :=
  ⟨h.len, fun i s e => (h.at_ i s e).grow g, h.sep⟩

/-! ### outcomes -/
def Out {α : Type} (W : Nat → List (Nat × D) → Sto → Prop) (r : Bc.R (α × Sto)) (k : α → Sto → Prop) : Prop := match r with
  | .ok (a, s) => k a s
  | .exc c fs s => W c fs s
  | .stuck => False
section
variable {α β : Type} {W : Nat → List (Nat × D) → Sto → Prop}
theorem Out.bind {m : M α} {f : α → M β} {s : Sto} {k : β → Sto → Prop} (h : Out W ((m.bind f) s) k) : Out W (m s) (fun a s' => Out W (f a s') k) := by
  unfold M.bind at h
  cases e : m s with
  | ok p => obtain ⟨a, s'⟩ := p; rw [e] at h; exact h
  | exc c fs s' => rw [e] at h; exact h
  | stuck => rw [e] at h; exact h
theorem Out.imp {r : Bc.R (α × Sto)} {k k' : α → Sto → Prop} {W' : Nat → List (Nat × D) → Sto → Prop} (h : Out W r k) (hk : ∀ a s, k a s → k' a s) (hw : ∀ c fs s, W c fs s → W' c fs s) : Out W' r k' := by
  cases r with
  | ok p => exact hk _ _ h
  | exc c fs s => exact hw _ _ _ h
  | stuck => exact h
theorem Out.unbind {m : M α} {f : α → M β} {s : Sto} {k : β → Sto → Prop} {k' : α → Sto → Prop} (h : Out W (m s) k') (hk : ∀ a s', k' a s' → Out W (f a s') k) : Out W ((m.bind f) s) k := by
  unfold M.bind
  cases e : m s with
  | ok p => rw [e] at h; exact hk _ _ h
  | exc _ _ _ => rw [e] at h; exact h
  | stuck => rw [e] at h; exact h
theorem Out.pure {a : α} {s : Sto} {k : α → Sto → Prop} (h : Out W ((M.pure a) s) k) : k a s := h
theorem Out.need {b : Bool} {s : Sto} {k : Unit → Sto → Prop} (h : Out W (need b s) k) : b = true ∧ k () s := by
  unfold Bc.need at h
  cases b with
  | true => exact ⟨rfl, h⟩
  | false => exact h.elim
theorem Out.needB {b : Bool} {f : Unit → M β} {s : Sto} {k : β → Sto → Prop} (h : Out W (((Bc.need b).bind f) s) k) : b = true ∧ Out W (f () s) k := by
  have := Out.need (Out.bind h)
  exact this
theorem Out.ofOpt {o : Option α} {s : Sto} {k : α → Sto → Prop} (h : Out W (ofOpt o s) k) : ∃ a, o = some a ∧ k a s := by
  cases o with
  | none => exact h.elim
  | some a => exact ⟨a, rfl, h⟩
theorem Out.ofOptB {o : Option α} {f : α → M β} {s : Sto} {k : β → Sto → Prop} (h : Out W (((Bc.ofOpt o).bind f) s) k) : ∃ a, o = some a ∧ Out W (f a s) k := Out.ofOpt (Out.bind h)
theorem Out.conv {r r' : Bc.R (α × Sto)} {k : α → Sto → Prop} (e : r = r') (h : Out W r k) : Out W r' k := e ▸ h
theorem bind_one {γ : Type} (m : M α) (g : List α → M γ) (s : Sto) : ((m.bind fun x => M.pure [x]).bind g) s = (m.bind fun x => g [x]) s := by
  unfold M.bind
  cases m s <;> rfl
abbrev noW : Nat → List (Nat × D) → Sto → Prop := fun _ _ _ => False
theorem Out.noX {W' : Nat → List (Nat × D) → Sto → Prop} {m : M α} {s : Sto} {k : α → Sto → Prop} (h : Out W (noX m s) k) : Out W' (m s) k := by
  unfold Bc.noX at h
  cases e : m s with
  | ok p => rw [e] at h; exact h
  | exc _ _ _ => rw [e] at h; exact h.elim
  | stuck => rw [e] at h; exact h
theorem Out.stuck' {s : Sto} {k : α → Sto → Prop} (h : Out W ((stuck : M α) s) k) : False := h
end
end Bc

set_option linter.all false
set_option autoImplicit false
set_option maxRecDepth 100000
set_option maxHeartbeats 1000000
namespace Bc
open PySem PySem.Spec PyProof.Rows L2
/-- t * 1, and () * k: t itself -/
theorem tuple_mul1 (l : Addr) (items : Array Value) (n : Nat) (dd : Option Addr) (sl : Array (Option Value)) (x : Int) (u : Tok) (c0 : (decide (x < -(2 ^ 63)) || decide (x ≥ 2 ^ 63)) = false) (c1 : (items.isEmpty || x == 1) = true) :
    Meets (Builtin.«tuple.__mul__» ⟨[.ref l, .int x u], []⟩) (fun _ R s => s.heap.get? l = some { cls := .type "tuple", dict := dd, data := .seq items n, slots := sl } ∧ R (.ok (.ret (Value.ref l))) s) :=
  .of_wp fun prog w A R s h => by
    obtain ⟨hp, g, d, tk, os⟩ := s
    obtain ⟨hl, h⟩ := h
    have f1 := AutoSeq1.idx_int
    wp_walk using wpAny_loadPart' hl
    repeat (first
      | (refine wpAny_ite_false (decide_eq_false (by rw [c0]; exact Bool.false_ne_true)) ?_; wp_walk using wpAny_loadPart' hl)
      | (refine wpAny_ite_true (decide_eq_true (by rw [c1])) ?_; wp_walk using wpAny_loadPart' hl))
    exact ⟨_, rfl, h⟩
/-- t * 0 -/
theorem tuple_mul0 (l : Addr) (items : Array Value) (n : Nat) (dd : Option Addr) (sl : Array (Option Value)) (u : Tok) (c1 : (items.isEmpty || (0 : Int) == 1) = false) :
    Meets (Builtin.«tuple.__mul__» ⟨[.ref l, .int 0 u], []⟩) (fun _ R s => s.heap.get? l = some { cls := .type "tuple", dict := dd, data := .seq items n, slots := sl } ∧
      R (.ok (.ret (Value.ref s.heap.objs.size))) { s with heap := s.heap.push { cls := Value.type "tuple", data := Data.seq #[] }, toks := s.toks }) :=
  .of_wp fun prog w A R s h => by
    obtain ⟨hp, g, d, tk, os⟩ := s
    obtain ⟨hl, h⟩ := h
    have f1 := AutoSeq1.idx_int
    wp_walk using wpAny_loadPart' hl
    repeat (first
      | (refine wpAny_ite_false (decide_eq_false (by decide)) ?_; wp_walk using wpAny_loadPart' hl)
      | (refine wpAny_ite_false (decide_eq_false (by rw [c1]; exact Bool.false_ne_true)) ?_; wp_walk using wpAny_loadPart' hl)
      | (refine wpAny_ite_true (decide_eq_true rfl) ?_; wp_walk using wpAny_loadPart' hl))
    exact ⟨_, rfl, h⟩
def rRepA (K : PySem.W.Frag) : R2 := fun x y H Q => ∃ l k xs, x = .ref l ∧ y = .int k ∧ SqT K H l xs ∧ 0 ≤ k ∧ k < 1000000 ∧ xs.length * k.toNat ≤ sizeLine ∧
  ((xs = [] ∨ k = 1) → Q (.ref l) H) ∧ ∀ p, H p = none → Q (.ref p) (upd H p (.tup (List.replicate k.toNat xs).flatten))
theorem op_repA {X : Cx} : OpR X (binaryOp .Mult) (rRepA X.K) := by
  intro pins s σ H x y v u Q I rx ry h
  obtain ⟨l, k, xs, rfl, rfl, hT, h1, h2, hz, q1, q⟩ := h
  cases rx
  obtain ⟨t, rfl⟩ := ry
  obtain ⟨its, r, ⟨⟨cls, dd, data, sl⟩, ho, hc, n, hd⟩, hs⟩ := I.tuple hT
  simp only at hc hd
  subst hc hd
  have hle : its.length = xs.length := r.length.symm
  have hsz0 : its.toArray.size = xs.length := by rw [List.size_toArray, hle]
  have c0 : (decide (k < -(2 ^ 63)) || decide (k ≥ 2 ^ 63)) = false := by
    rw [decide_eq_false (by omega), decide_eq_false (by omega)] <;> rfl
  have emp : its.toArray.isEmpty = true ↔ xs = [] := by
    rw [show its.toArray.isEmpty = its.isEmpty by cases its <;> rfl, List.isEmpty_iff]
    exact ⟨fun e => List.eq_nil_of_length_eq_zero (by rw [← hle, e]; rfl), fun e => List.eq_nil_of_length_eq_zero (by rw [hle, e]; rfl)⟩
  have road : ∀ Q' : Value → Shared → Prop, wpAny (model X.prog X.w) X.A (call (.builtin "tuple.__mul__") [.ref l, .int k t]) Q' X.xe s → wpAny (model X.prog X.w) X.A (binaryOp .Mult (.ref l) (.int k t)) Q' X.xe s := fun Q' hq =>
    wpAny_binaryOp_repeat_ref (T := "tuple") (U := "int") (by decide) ⟨_, ho, rfl⟩ (fun s' => typeIs_int s' k t) noFill_tuple_mul F.fills_int_mul F.slot_int_rmul repeat_tuple F.slot_int_index.lookup
      (call_meets F.slot_int_rmul (typeIs_int s k t) F.entry_int_rmul (F.args_int_rmul_2 _ _) (int_rmul_tuple k t l its.toArray n dd sl) ⟨ho, rfl, ⟨_, ho, rfl⟩, hq⟩)
  have new : ∀ ys : List V, ys.length ≤ sizeLine → ∀ its2 : List Value, Vals ys its2 → (∀ p, H p = none → Q (.ref p) (upd H p (.tup ys))) → EP X pins σ Q (.ref s.heap.objs.size) { s with heap := s.heap.push { cls := Value.type "tuple", data := Data.seq its2.toArray }, toks := s.toks } := fun ys hy its2 r2 q2 =>
    ⟨.ref s.heap.objs.size, _, I.laid (t' := s.toks) (o := .tup ys) (fun b ob q => Heap.get?_push_of_some _ q) (Nat.le_refl _) ⟨hy, _, r2, IsTup.new _ _⟩, rfl, q2 _ (I.hok.fresh (Nat.le_refl _))⟩
  have flen : (List.replicate k.toNat xs).flatten.length ≤ sizeLine := by
    rw [PyProof.Rows.lm_len_rep_flat, Nat.mul_comm]; exact hz
  by_cases c1 : (its.toArray.isEmpty || k == 1) = true
  · refine road _ (call_meets F.slot_tuple_mul ⟨_, ho, rfl⟩ F.entry_tuple_mul (F.args_tuple_mul_2 _ _) (tuple_mul1 l its.toArray n dd sl k t c0 c1) ⟨ho, ?_⟩)
    refine ⟨.ref l, H, I, rfl, q1 ?_⟩
    rw [Bool.or_eq_true] at c1
    rcases c1 with c1 | c1
    · exact .inl (emp.mp c1)
    · exact .inr (eq_of_beq c1)
  · have c1 : (its.toArray.isEmpty || k == 1) = false := by
      cases e : (its.toArray.isEmpty || k == 1) with
      | true => exact absurd e c1
      | false => rfl
    by_cases hk : k = 0
    · subst hk
      refine road _ (call_meets F.slot_tuple_mul ⟨_, ho, rfl⟩ F.entry_tuple_mul (F.args_tuple_mul_2 _ _) (tuple_mul0 l its.toArray n dd sl t c1) ⟨ho, ?_⟩)
      exact new [] (Nat.zero_le _) [] .nil q
    · have hi : its.toArray.isEmpty = false := by
        rw [Bool.or_eq_false_iff] at c1
        exact c1.1
      have c2 : (decide (k ≤ 0) || its.toArray.isEmpty) = false := by
        rw [hi, Bool.or_false]
        exact decide_eq_false (by omega)
      have hm : ((its.toArray.size : Nat) : Int) * k ≤ 16777216 := by
        rw [hsz0]
        rw [sizeLine_eq] at hz
        have : (k.toNat : Int) = k := Int.toNat_of_nonneg h1
        rw [← this]
        have h3 : ((xs.length * k.toNat : Nat) : Int) ≤ ((16777216 : Nat) : Int) := Int.ofNat_le.mpr hz
        rw [Int.natCast_mul] at h3
        exact h3
      have c4 : Builtin.Tuple.tupleTooMany (((its.toArray.size : Nat) : Int) * k) = false := by
        unfold Builtin.Tuple.tupleTooMany
        rw [sizeLine_eq]
        exact decide_eq_false (by omega)
      refine road _ (call_meets F.slot_tuple_mul ⟨_, ho, rfl⟩ F.entry_tuple_mul (F.args_tuple_mul_2 _ _) (tuple_mulW l its.toArray n dd sl k t c0 c1 c2 (by omega) c4 (by
        rw [size_rep, List.size_toArray, PyProof.Rows.lm_len_rep_flat, hle, Nat.mul_comm]; exact hz)) ⟨ho, ?_⟩)
      rw [size_rep]
      exact new _ flen _ (r.rep k.toNat) q
end Bc

set_option linter.all false
set_option autoImplicit false
set_option maxRecDepth 100000
set_option maxHeartbeats 1000000
namespace Bc
open PySem PySem.Spec L2

/-- what is wanted of an exception: its class, fields, the store, the slots, the heap, the relation -/
abbrev WD := Nat → List (Nat × D) → Sto → L2.St → Hp → Rl → Prop
def wE (X : Sx) (W : WD) (R : Rl) (H : Hp) (σ : L2.St) : Nat → List (Nat × D) → Sto → Prop := fun c fs s => ∀ H' R', Grow R H R' H' → StOk X R' H' s → W c fs s σ H' R'
/-- a transient value: a list that is read at once may be one that is still being filled -/
def RepT (X : Sx) (R : Rl) (H : Hp) (v : V) (d : D) : Prop := Rep X R v d ∨ ∃ a vs ds, d = .lst false ds ∧ v = .ref a ∧ H a = some (.lst vs) ∧ a ∉ R.mu ∧ Reps X R vs ds
inductive RepTs (X : Sx) (R : Rl) (H : Hp) : List V → List D → Prop
  | nil : RepTs X R H [] []
  | cons {v : V} {vs : List V} {d : D} {ds : List D} : RepT X R H v d → RepTs X R H vs ds → RepTs X R H (v :: vs) (d :: ds)
theorem StOk.notmu {X : Sx} {R : Rl} {H : Hp} {sto : Sto} (S : StOk X R H sto) {a : Addr} (h : a ∈ R.mu) : R.Fz a = none ∧ R.Bz a = none := by
  obtain ⟨n, hn⟩ := List.getElem?_of_mem h
  have hl : n < sto.length := by rw [← S.len]; exact (List.getElem?_eq_some_iff.mp hn).1
  obtain ⟨f, b, _⟩ := S.at_ n a sto[n] hn (by simp [hl])
  exact ⟨f, b⟩
theorem Grow.notmu {R R' : Rl} {H H' : Hp} (g : Grow R H R' H') {a : Addr} {o : HO} (e : H a = some o) (m : a ∉ R.mu) : a ∉ R'.mu := fun hm => by
  rcases g.muN a hm with z | z
  · exact m z
  · rw [e] at z; cases z
theorem RepT.grow {X : Sx} {R R' : Rl} {H H' : Hp} {v : V} {d : D} (g : Grow R H R' H') (r : RepT X R H v d) : RepT X R' H' v d := by
  rcases r with r | ⟨a, vs, ds, e1, e2, e3, m, r⟩
  · exact .inl (r.mono g.le)
  · exact .inr ⟨a, vs, ds, e1, e2, (g.kept a _ e3 m).1, g.notmu e3 m, Reps.mono g.le _ r⟩
theorem RepTs.grow {X : Sx} {R R' : Rl} {H H' : Hp} (g : Grow R H R' H') : ∀ {vs : List V} {ds : List D}, RepTs X R H vs ds → RepTs X R' H' vs ds
  | _, _, .nil => .nil
  | _, _, .cons r t => .cons (r.grow g) (RepTs.grow g t)
theorem RepTs.of {X : Sx} {R : Rl} {H : Hp} : ∀ {vs : List V} {ds : List D}, Reps X R vs ds → RepTs X R H vs ds
  | _, _, .nil => .nil
  | _, _, .cons r t => .cons (.inl r) (RepTs.of t)
/-- the reading of an expression by the evaluator -/
def tD (X : Sx) (W : WD) (f : Env → M D) : TE := fun σ H Q => ∃ R env sto, StOk X R H sto ∧ EnvOk X R H σ env ∧
  Out (wE X W R H σ) (f env sto) fun d s' => ∀ v H' R', Grow R H R' H' → StOk X R' H' s' → Rep X R' v d → Q v H'
/-- .. where a transient value is enough -/
def tT (X : Sx) (W : WD) (f : Env → M D) : TE := fun σ H Q => ∃ R env sto, StOk X R H sto ∧ EnvOk X R H σ env ∧
  Out (wE X W R H σ) (f env sto) fun d s' => ∀ v H' R', Grow R H R' H' → StOk X R' H' s' → RepT X R' H' v d → Q v H'
def tDs (X : Sx) (W : WD) (f : Env → M (List D)) : TA := fun σ H Q => ∃ R env sto, StOk X R H sto ∧ EnvOk X R H σ env ∧
  Out (wE X W R H σ) (f env sto) fun d s' => ∀ v H' R', Grow R H R' H' → StOk X R' H' s' → Reps X R' v d → Q v H'
def tTs (X : Sx) (W : WD) (f : Env → M (List D)) : TA := fun σ H Q => ∃ R env sto, StOk X R H sto ∧ EnvOk X R H σ env ∧
  Out (wE X W R H σ) (f env sto) fun d s' => ∀ v H' R', Grow R H R' H' → StOk X R' H' s' → RepTs X R' H' v d → Q v H'
def tB (X : Sx) (W : WD) (f : Env → M Bool) : TT := fun σ H Q => ∃ R env sto, StOk X R H sto ∧ EnvOk X R H σ env ∧
  Out (wE X W R H σ) (f env sto) fun b s' => ∀ H' R', Grow R H R' H' → StOk X R' H' s' → Q b H'
/-- the two modes -/
def tX (X : Sx) (W : WD) (tr : Bool) (f : Env → M D) : TE := if tr then tT X W f else tD X W f
def tXs (X : Sx) (W : WD) (tr : Bool) (f : Env → M (List D)) : TA := if tr then tTs X W f else tDs X W f

section
variable {X : Sx} {W : WD} {C : Cx}
theorem _root_.L2.PE.weak {e : Expr} {t t' : TE} (h : PE C e t) (w : ∀ σ H Q, t' σ H Q → t σ H Q) : PE C e t' := ⟨fun pins s σ H Q I q => h.run pins s σ H Q I (w σ H Q q)⟩
theorem _root_.L2.PT.weak {e : Expr} {t t' : TT} (h : PT C e t) (w : ∀ σ H Q, t' σ H Q → t σ H Q) : PT C e t' := ⟨fun pins s σ H Q I q => h.run pins s σ H Q I (w σ H Q q)⟩
theorem _root_.L2.PA.weak {e : List Expr} {t t' : TA} (h : PA C e t) (w : ∀ σ H Q, t' σ H Q → t σ H Q) : PA C e t' := ⟨fun pos pins s σ H Q I q => h.run pos pins s σ H Q I (w σ H Q q)⟩
theorem _root_.L2.PS.weak {e : Stmt} {t t' : TS} (h : PS C e t) (w : ∀ σ H Q, t' σ H Q → t σ H Q) : PS C e t' := ⟨fun pins s σ H Q I q => h.run pins s σ H Q I (w Q σ H q)⟩
theorem _root_.L2.PSs.weak {e : List Stmt} {t t' : TS} (h : PSs C e t) (w : ∀ σ H Q, t' σ H Q → t σ H Q) : PSs C e t' := ⟨fun pins s σ H Q I q => h.run pins s σ H Q I (w Q σ H q)⟩
theorem _root_.L2.PG.weak {e : Expr} {t t' : TG} (h : PG C e t) (w : ∀ v σ H Q, t' v σ H Q → t v σ H Q) : PG C e t' := ⟨fun pins s σ H v u Q I r q => h.run pins s σ H v u Q I r (w v σ H Q q)⟩

theorem tD_tT {f : Env → M D} {σ : L2.St} {H : Hp} {Q : VK} (h : tT X W f σ H Q) : tD X W f σ H Q := by
  obtain ⟨R, env, sto, S, E, o⟩ := h
  exact ⟨R, env, sto, S, E, o.imp (fun d s k v H' R' g S' r => k v H' R' g S' (.inl r)) fun _ _ _ w => w⟩
theorem tDs_tTs {f : Env → M (List D)} {σ : L2.St} {H : Hp} {Q : List V → Hp → Prop} (h : tTs X W f σ H Q) : tDs X W f σ H Q := by
  obtain ⟨R, env, sto, S, E, o⟩ := h
  exact ⟨R, env, sto, S, E, o.imp (fun d s k v H' R' g S' r => k v H' R' g S' (RepTs.of r)) fun _ _ _ w => w⟩
theorem tX_tT {tr : Bool} {f : Env → M D} {σ : L2.St} {H : Hp} {Q : VK} (h : tT X W f σ H Q) : tX X W tr f σ H Q := by
  cases tr with
  | true => exact h
  | false => exact tD_tT h
theorem tD_tX {tr : Bool} {f : Env → M D} {σ : L2.St} {H : Hp} {Q : VK} (h : tX X W tr f σ H Q) : tD X W f σ H Q := by
  cases tr with
  | true => exact tD_tT h
  | false => exact h
/-- a permanent value serves in both modes -/
theorem _root_.L2.PE.anyX {e : Expr} {f : Env → M D} {tr : Bool} (h : PE C e (tD X W f)) : PE C e (tX X W tr f) := h.weak fun σ H Q q => tD_tX q
theorem _root_.L2.PE.asT {e : Expr} {f : Env → M D} {tr : Bool} (h : PE C e (tX X W tr f)) : PE C e (tT X W f) := h.weak fun σ H Q q => tX_tT q
theorem _root_.L2.PE.anyT {e : Expr} {f : Env → M D} (h : PE C e (tD X W f)) : PE C e (tT X W f) := h.weak fun σ H Q q => tD_tT q

/-- using an operand's reading within a larger evaluation -/
theorem useT {β : Type} {R : Rl} {H : Hp} {sto : Sto} {σ : L2.St} {env : Env} {fa : Env → M D} {g : D → M β} {k : β → Sto → Prop} {Kx : VK} (S : StOk X R H sto) (E : EnvOk X R H σ env)
    (h : Out (wE X W R H σ) (((fa env).bind g) sto) k)
    (hk : ∀ v H1 R1 d s1, Grow R H R1 H1 → StOk X R1 H1 s1 → EnvOk X R1 H1 σ env → RepT X R1 H1 v d → Out (wE X W R H σ) (g d s1) k → Kx v H1) : tT X W fa σ H Kx :=
  ⟨R, env, sto, S, E, (Out.bind h).imp (fun d s q v H' R' g' S' r => hk v H' R' d s g' S' (E.grow g') r q) fun _ _ _ w => w⟩
theorem useD {β : Type} {R : Rl} {H : Hp} {sto : Sto} {σ : L2.St} {env : Env} {fa : Env → M D} {g : D → M β} {k : β → Sto → Prop} {Kx : VK} (S : StOk X R H sto) (E : EnvOk X R H σ env)
    (h : Out (wE X W R H σ) (((fa env).bind g) sto) k)
    (hk : ∀ v H1 R1 d s1, Grow R H R1 H1 → StOk X R1 H1 s1 → EnvOk X R1 H1 σ env → Rep X R1 v d → Out (wE X W R H σ) (g d s1) k → Kx v H1) : tD X W fa σ H Kx :=
  ⟨R, env, sto, S, E, (Out.bind h).imp (fun d s q v H' R' g' S' r => hk v H' R' d s g' S' (E.grow g') r q) fun _ _ _ w => w⟩
theorem useX {β : Type} {tr : Bool} {R : Rl} {H : Hp} {sto : Sto} {σ : L2.St} {env : Env} {fa : Env → M D} {g : D → M β} {k : β → Sto → Prop} {Kx : VK} (S : StOk X R H sto) (E : EnvOk X R H σ env)
    (h : Out (wE X W R H σ) (((fa env).bind g) sto) k)
    (hk : ∀ v H1 R1 d s1, Grow R H R1 H1 → StOk X R1 H1 s1 → EnvOk X R1 H1 σ env → (if tr then RepT X R1 H1 v d else Rep X R1 v d) → Out (wE X W R H σ) (g d s1) k → Kx v H1) : tX X W tr fa σ H Kx := by
  cases tr with
  | true => exact useT S E h hk
  | false => exact useD S E h hk
theorem useDs {β : Type} {R : Rl} {H : Hp} {sto : Sto} {σ : L2.St} {env : Env} {fa : Env → M (List D)} {g : List D → M β} {k : β → Sto → Prop} {Kx : List V → Hp → Prop} (S : StOk X R H sto) (E : EnvOk X R H σ env)
    (h : Out (wE X W R H σ) (((fa env).bind g) sto) k)
    (hk : ∀ v H1 R1 d s1, Grow R H R1 H1 → StOk X R1 H1 s1 → EnvOk X R1 H1 σ env → Reps X R1 v d → Out (wE X W R H σ) (g d s1) k → Kx v H1) : tDs X W fa σ H Kx :=
  ⟨R, env, sto, S, E, (Out.bind h).imp (fun d s q v H' R' g' S' r => hk v H' R' d s g' S' (E.grow g') r q) fun _ _ _ w => w⟩
theorem useTs {β : Type} {R : Rl} {H : Hp} {sto : Sto} {σ : L2.St} {env : Env} {fa : Env → M (List D)} {g : List D → M β} {k : β → Sto → Prop} {Kx : List V → Hp → Prop} (S : StOk X R H sto) (E : EnvOk X R H σ env)
    (h : Out (wE X W R H σ) (((fa env).bind g) sto) k)
    (hk : ∀ v H1 R1 d s1, Grow R H R1 H1 → StOk X R1 H1 s1 → EnvOk X R1 H1 σ env → RepTs X R1 H1 v d → Out (wE X W R H σ) (g d s1) k → Kx v H1) : tTs X W fa σ H Kx :=
  ⟨R, env, sto, S, E, (Out.bind h).imp (fun d s q v H' R' g' S' r => hk v H' R' d s g' S' (E.grow g') r q) fun _ _ _ w => w⟩
theorem useB {β : Type} {R : Rl} {H : Hp} {sto : Sto} {σ : L2.St} {env : Env} {fa : Env → M Bool} {g : Bool → M β} {k : β → Sto → Prop} {Kx : Bool → Hp → Prop} (S : StOk X R H sto) (E : EnvOk X R H σ env)
    (h : Out (wE X W R H σ) (((fa env).bind g) sto) k)
    (hk : ∀ b H1 R1 s1, Grow R H R1 H1 → StOk X R1 H1 s1 → EnvOk X R1 H1 σ env → Out (wE X W R H σ) (g b s1) k → Kx b H1) : tB X W fa σ H Kx :=
  ⟨R, env, sto, S, E, (Out.bind h).imp (fun d s q H' R' g' S' => hk d H' R' s g' S' (E.grow g') q) fun _ _ _ w => w⟩

/-! ### leaves -/
theorem dx_int {i : Int} {j : Nat} {pos : Pos} : PE C (.Constant (.int i) j pos) (tD X W fun _ => M.pure (.int i)) :=
  pe_int.weak fun σ H Q ⟨R, env, sto, S, E, o⟩ => o.pure (.int i) H R (Grow.refl _ _) S (.int i)
theorem dx_bl {i : Bool} {j : Nat} {pos : Pos} : PE C (.Constant (.bool i) j pos) (tD X W fun _ => M.pure (.bl i)) :=
  pe_bl.weak fun σ H Q ⟨R, env, sto, S, E, o⟩ => o.pure (.bl i) H R (Grow.refl _ _) S (.bl i)
theorem dx_non {j : Nat} {pos : Pos} : PE C (.Constant .none j pos) (tD X W fun _ => M.pure .non) :=
  pe_non.weak fun σ H Q ⟨R, env, sto, S, E, o⟩ => o.pure .non H R (Grow.refl _ _) S .non
theorem dx_str {x : Str} {j : Nat} {pos : Pos} : PE C (.Constant (.str x) j pos) (tD X W fun _ => M.pure (.str x)) :=
  pe_str.weak fun σ H Q ⟨R, env, sto, S, E, o⟩ => o.pure (.str x) H R (Grow.refl _ _) S (.str x)
theorem dx_var {i : Nat} {x : Str} {pos : Pos} (cl : Cl) (hN : C.N[i]? = some x) (hv : Vis C.env.scope x) (hd : (x == ("__debug__" : Str)) = false) (hcd : (x == ("__classdict__" : Str)) = false) :
    PE C (.Name x pos) (tD X W (evE cl (.var i))) := by
  refine (pe_var hN hv hd hcd).weak fun σ H Q ⟨R, env, sto, S, E, o⟩ => ?_
  unfold evE at o
  cases e : env[i]? with
  | none => rw [e] at o; exact o.elim
  | some s =>
    rw [e] at o
    cases s with
    | val d =>
      obtain ⟨v, ev, r⟩ := E.at_ i _ e
      exact ⟨v, ev, o.pure v H R (Grow.refl _ _) S r⟩
    | _ => exact o.elim
theorem dx_own {i : Nat} {x : Str} {pos : Pos} (cl : Cl) (hN : C.N[i]? = some x) (hv : Vis C.env.scope x) (hd : (x == ("__debug__" : Str)) = false) (hcd : (x == ("__classdict__" : Str)) = false) :
    PE C (.Name x pos) (tT X W (evE cl (.own i))) := by
  refine (pe_var hN hv hd hcd).weak fun σ H Q ⟨R, env, sto, S, E, o⟩ => ?_
  unfold evE at o
  cases e : env[i]? with
  | none => rw [e] at o; exact o.elim
  | some s =>
    rw [e] at o
    cases s with
    | own ds =>
      obtain ⟨a, vs, ev, eh, f, b, m, r⟩ := E.at_ i _ e
      exact ⟨.ref a, ev, o.pure (.ref a) H R (Grow.refl _ _) S (.inr ⟨a, vs, ds, rfl, rfl, eh, m, r⟩)⟩
    | ownK kvs => exact (E.at_ i _ e).elim
    | ownT kvs => exact (E.at_ i _ e).elim
    | _ => exact o.elim

/-! ### lists, tuples -/
theorem dx_nil : PA C [] (tDs X W fun _ => M.pure []) :=
  pa_nil.weak fun σ H Q ⟨R, env, sto, S, E, o⟩ => o.pure [] H R (Grow.refl _ _) S .nil
theorem dxT_nil : PA C [] (tTs X W fun _ => M.pure []) :=
  pa_nil.weak fun σ H Q ⟨R, env, sto, S, E, o⟩ => o.pure [] H R (Grow.refl _ _) S .nil
theorem dx_cons {e : Expr} {es : List Expr} {f : Env → M D} {g : Env → M (List D)} (ha : PE C e (tD X W f)) (hr : PA C es (tDs X W g)) (hs : starEach (e :: es) C.env = (false, eval e C.env) :: starEach es C.env) :
    PA C (e :: es) (tDs X W fun env => (f env).bind fun x => (g env).bind fun xs => M.pure (x :: xs)) := by
  refine (pa_cons ha hr hs).weak fun σ H Q ⟨R, env, sto, S, E, o⟩ => ?_
  refine useD S E o fun v H1 R1 d s1 g1 S1 E1 r1 o1 => ?_
  have o1 : Out (wE X W R1 H1 σ) (((g env).bind fun xs => M.pure (d :: xs)) s1) _ := o1.imp (fun _ _ q => q) fun _ _ _ w H' R' g' S' => w H' R' (g1.trans g') S'
  refine useDs S1 E1 o1 fun vs H2 R2 ds s2 g2 S2 E2 r2 o2 => ?_
  exact o2.pure (v :: vs) H2 R2 (g1.trans g2) S2 (.cons (r1.mono g2.le) r2)
theorem dxT_cons {e : Expr} {es : List Expr} {f : Env → M D} {g : Env → M (List D)} (ha : PE C e (tT X W f)) (hr : PA C es (tTs X W g)) (hs : starEach (e :: es) C.env = (false, eval e C.env) :: starEach es C.env) :
    PA C (e :: es) (tTs X W fun env => (f env).bind fun x => (g env).bind fun xs => M.pure (x :: xs)) := by
  refine (pa_cons ha hr hs).weak fun σ H Q ⟨R, env, sto, S, E, o⟩ => ?_
  refine useT S E o fun v H1 R1 d s1 g1 S1 E1 r1 o1 => ?_
  have o1 : Out (wE X W R1 H1 σ) (((g env).bind fun xs => M.pure (d :: xs)) s1) _ := o1.imp (fun _ _ q => q) fun _ _ _ w H' R' g' S' => w H' R' (g1.trans g') S'
  refine useTs S1 E1 o1 fun vs H2 R2 ds s2 g2 S2 E2 r2 o2 => ?_
  exact o2.pure (v :: vs) H2 R2 (g1.trans g2) S2 (.cons (r1.grow g2) r2)
theorem lenOk_line {n : Nat} (h : lenOk n = true) : n ≤ sizeLine := by
  have := of_decide_eq_true h
  rw [sizeLine_eq]; exact this
/-- a new frozen object is handed on -/
theorem new_val {R : Rl} {H : Hp} {sto : Sto} {d : D} {o : HO} {Q : VK} {p : Addr} (S : StOk X R H sto) (hp : H p = none)
    (r : ∀ R', RLe R R' → R'.Fz p = some o → Rep X R' (.ref p) d)
    (q : ∀ v H' R', Grow R H R' H' → StOk X R' H' sto → Rep X R' v d → Q v H') : Q (.ref p) (upd H p o) :=
  q _ _ _ (put_grow S hp) (put_st S hp) (r _ (put_le (fz_none S hp)) upd_same)
theorem dx_tup {es : List Expr} {f : Env → M (List D)} {k : Nat} {pos : Pos} (h : PA C es (tDs X W f)) :
    PE C (.Tuple es k pos) (tD X W fun env => (f env).bind fun ds => (need (lenOk ds.length)).bind fun _ => M.pure (.tup ds)) := by
  refine (pe_tup h).weak fun σ H Q ⟨R, env, sto, S, E, o⟩ => ?_
  refine useDs S E o fun vs H1 R1 ds s1 g1 S1 E1 r1 o1 => ?_
  obtain ⟨hl, o2⟩ := o1.needB
  refine ⟨by rw [r1.length]; exact lenOk_line hl, fun p hp => ?_⟩
  exact new_val S1 hp (fun R' le e => .tup e (Reps.mono le _ r1)) fun v H' R' g' S' r' => o2.pure v H' R' (g1.trans g') S' r'
theorem dx_lst {es : List Expr} {f : Env → M (List D)} {pos : Pos} (h : PA C es (tDs X W f)) :
    PE C (.List es pos) (tD X W fun env => (f env).bind fun ds => (need (lenOk ds.length)).bind fun _ => M.pure (.lst true ds)) := by
  refine (pe_lst h).weak fun σ H Q ⟨R, env, sto, S, E, o⟩ => ?_
  refine useDs S E o fun vs H1 R1 ds s1 g1 S1 E1 r1 o1 => ?_
  obtain ⟨hl, o2⟩ := o1.needB
  refine ⟨by rw [r1.length]; exact lenOk_line hl, fun p hp => ?_⟩
  exact new_val S1 hp (fun R' le e => .lst e (Reps.mono le _ r1)) fun v H' R' g' S' r' => o2.pure v H' R' (g1.trans g') S' r'

/-! ### operations on two values -/
/-- a rule r of the layer answers what g does on trees -/
def Op2 (X : Sx) (r : R2) (g : D → D → M D) : Prop := ∀ (W' : Nat → List (Nat × D) → Sto → Prop) (R : Rl) (H : Hp) (sto : Sto) (x y : V) (dx dy : D) (k : D → Sto → Prop) (Q : VK),
  StOk X R H sto → RepT X R H x dx → RepT X R H y dy → Out W' (g dx dy sto) k → (∀ d s', k d s' → ∀ v H' R', Grow R H R' H' → StOk X R' H' s' → Rep X R' v d → Q v H') → r x y H Q
theorem dx_bin {o : Operator} {r : R2} {g : D → D → M D} {a b : Expr} {fa fb : Env → M D} {pos : Pos} (ho : OpR C (binaryOp o) r) (hg : Op2 X r g) (ha : PE C a (tT X W fa)) (hb : PE C b (tT X W fb)) :
    PE C (.BinOp a o b pos) (tD X W fun env => (fa env).bind fun x => (fb env).bind fun y => g x y) := by
  refine (pe_op ho ha hb).weak fun σ H Q ⟨R, env, sto, S, E, o⟩ => ?_
  refine useT S E o fun v H1 R1 d s1 g1 S1 E1 r1 o1 => ?_
  have o1 : Out (wE X W R1 H1 σ) (((fb env).bind fun y => g d y) s1) _ := o1.imp (fun _ _ q => q) fun _ _ _ w H' R' g' S' => w H' R' (g1.trans g') S'
  refine useT S1 E1 o1 fun v2 H2 R2 d2 s2 g2 S2 E2 r2 o2 => ?_
  exact hg _ R2 H2 s2 v v2 d d2 _ Q S2 (r1.grow g2) r2 o2 fun d' s' q v' H' R' g' S' r' => q v' H' R' ((g1.trans g2).trans g') S' r'
theorem dx_cmp {o : CmpOp} {r : R2} {g : D → D → M D} {a b : Expr} {fa fb : Env → M D} {pos : Pos} (ho : OpR C (compareOp o) r) (hg : Op2 X r g) (ha : PE C a (tT X W fa)) (hb : PE C b (tT X W fb)) (hm : behindInMarks o b = false) :
    PE C (.Compare a [o] [b] pos) (tD X W fun env => (fa env).bind fun x => (fb env).bind fun y => g x y) := by
  refine (pe_cmpR ho ha hb hm).weak fun σ H Q ⟨R, env, sto, S, E, o⟩ => ?_
  refine useT S E o fun v H1 R1 d s1 g1 S1 E1 r1 o1 => ?_
  have o1 : Out (wE X W R1 H1 σ) (((fb env).bind fun y => g d y) s1) _ := o1.imp (fun _ _ q => q) fun _ _ _ w H' R' g' S' => w H' R' (g1.trans g') S'
  refine useT S1 E1 o1 fun v2 H2 R2 d2 s2 g2 S2 E2 r2 o2 => ?_
  exact hg _ R2 H2 s2 v v2 d d2 _ Q S2 (r1.grow g2) r2 o2 fun d' s' q v' H' R' g' S' r' => q v' H' R' ((g1.trans g2).trans g') S' r'
end
end Bc

set_option linter.all false
set_option autoImplicit false
set_option maxRecDepth 100000
set_option maxHeartbeats 1000000
namespace Bc
open PySem PySem.Spec L2

section
variable {X : Sx} {R : Rl} {H : Hp} {sto : Sto}
theorem RepT.int {v : V} {i : Int} (r : RepT X R H v (.int i)) : v = .int i := by
  rcases r with r | ⟨_, _, _, e, _⟩
  · cases r; rfl
  · cases e
theorem RepT.bl {v : V} {i : Bool} (r : RepT X R H v (.bl i)) : v = .bl i := by
  rcases r with r | ⟨_, _, _, e, _⟩
  · cases r; rfl
  · cases e
theorem RepT.non {v : V} (r : RepT X R H v .non) : v = .non := by
  rcases r with r | ⟨_, _, _, e, _⟩
  · cases r; rfl
  · cases e
theorem RepT.str {v : V} {i : Str} (r : RepT X R H v (.str i)) : v = .str i := by
  rcases r with r | ⟨_, _, _, e, _⟩
  · cases r; rfl
  · cases e
theorem RepT.tup {v : V} {ds : List D} (S : StOk X R H sto) (r : RepT X R H v (.tup ds)) : ∃ a vs, v = .ref a ∧ SqT X.K H a vs ∧ Reps X R vs ds := by
  rcases r with r | ⟨_, _, _, e, _⟩
  · cases r with | tup e r => exact ⟨_, _, rfl, .inl (.inl (S.fz _ _ e)), r⟩
  · cases e
theorem RepT.tupX {v : V} {ds : List D} (S : StOk X R H sto) (r : RepT X R H v (.tup ds)) : ∃ a vs, v = .ref a ∧ H a = some (.tup vs) ∧ Reps X R vs ds := by
  rcases r with r | ⟨_, _, _, e, _⟩
  · cases r with | tup e r => exact ⟨_, _, rfl, S.fz _ _ e, r⟩
  · cases e
theorem RepT.lst {v : V} {b : Bool} {ds : List D} (S : StOk X R H sto) (r : RepT X R H v (.lst b ds)) : ∃ a vs, v = .ref a ∧ H a = some (.lst vs) ∧ Reps X R vs ds := by
  rcases r with r | ⟨a, vs, ds', e, e1, e2, m, r⟩
  · cases r with
    | lst e r => exact ⟨_, _, rfl, S.fz _ _ e, r⟩
    | bor e r => exact ⟨_, _, rfl, S.bz _ _ e, r⟩
  · cases e; exact ⟨a, vs, e1, e2, r⟩
theorem RepT.ro {v : V} {ds : List D} (S : StOk X R H sto) (r : RepT X R H v (.ro ds)) : ∃ a vs, v = .ref a ∧ SqL X.K H a vs ∧ Reps X R vs ds := by
  rcases r with r | ⟨_, _, _, e, _⟩
  · cases r with | ro e r => exact ⟨_, _, rfl, sqL_le S.fz e, r⟩
  · cases e
theorem RepT.loc {v : V} {n : Nat} (r : RepT X R H v (.loc n)) : ∃ a, v = .ref a ∧ R.mu[n]? = some a := by
  rcases r with r | ⟨_, _, _, e, _⟩
  · cases r with | loc e => exact ⟨_, rfl, e⟩
  · cases e
theorem RepT.ins {v : V} {c : Nat} {ds : List (Nat × D)} (S : StOk X R H sto) (r : RepT X R H v (.ins c ds)) : ∃ a dx fs, v = .ref a ∧ H a = some (.ins (X.ca c) dx fs) ∧ Repf X R fs ds := by
  rcases r with r | ⟨_, _, _, e, _⟩
  · cases r with | ins e r => exact ⟨_, _, _, rfl, S.fz _ _ e, r⟩
  · cases e
/-- a sequence: a list or a tuple -/
theorem RepT.seq {v : V} {d : D} {ds : List D} (S : StOk X R H sto) (r : RepT X R H v d) (e : asSeq d = some ds) : ∃ a vs, v = .ref a ∧ (SqL X.K H a vs ∨ SqT X.K H a vs) ∧ Reps X R vs ds := by
  cases d <;> simp only [asSeq] at e <;> cases e
  · obtain ⟨a, vs, e1, e2, e3⟩ := r.tup S; exact ⟨a, vs, e1, .inr e2, e3⟩
  · obtain ⟨a, vs, e1, e2, e3⟩ := r.lst S; exact ⟨a, vs, e1, .inl (.of e2), e3⟩
  · obtain ⟨a, vs, e1, e2, e3⟩ := r.ro S; exact ⟨a, vs, e1, .inl e2, e3⟩
theorem RepTs.one {vs : List V} {d : D} (r : RepTs X R H vs [d]) : ∃ v, vs = [v] ∧ RepT X R H v d := by
  cases r with | cons a b => cases b; exact ⟨_, rfl, a⟩
theorem RepTs.two {vs : List V} {d e : D} (r : RepTs X R H vs [d, e]) : ∃ v w, vs = [v, w] ∧ RepT X R H v d ∧ RepT X R H w e := by
  cases r with | cons a b => cases b with | cons c d => cases d; exact ⟨_, _, rfl, a, c⟩
/-- a value that needs no heap -/
theorem got {d : D} {v : V} {Q : VK} (S : StOk X R H sto) (r : Rep X R v d) (q : ∀ v H' R', Grow R H R' H' → StOk X R' H' sto → Rep X R' v d → Q v H') : Q v H := q v H R (Grow.refl _ _) S r

/-! ### data -/
mutual
theorem toPy_dp (le : HLe R.Fz H) (lb : HLe R.Bz H) : ∀ (d : D) (p : PyData) {v : V}, toPy d = some p → Rep X R v d → Dp X.K H v p
  | .non, p, _, e, r => by cases r; cases e; exact .non
  | .bl b, p, _, e, r => by cases r; cases e; exact .bl b
  | .int i, p, _, e, r => by cases r; cases e; exact .int i
  | .str x, p, _, e, r => by cases r; cases e; exact .str x
  | .tup ds, p, _, e, r => by
    cases r with
    | tup h r =>
      simp only [toPy, Option.map_eq_some_iff] at e
      obtain ⟨ps, e1, e2⟩ := e
      subst e2
      exact .tup ((.inl (.inl (le _ _ h)))) (toPys_dp le lb ds ps e1 r)
  | .lst true ds, p, _, e, r => by
    cases r with
    | lst h r =>
      simp only [toPy, Option.map_eq_some_iff] at e
      obtain ⟨ps, e1, e2⟩ := e
      subst e2
      exact .lst (.of (le _ _ h)) (toPys_dp le lb ds ps e1 r)
  | .lst false ds, p, _, e, r => by
    cases r with
    | bor h r =>
      simp only [toPy, Option.map_eq_some_iff] at e
      obtain ⟨ps, e1, e2⟩ := e
      subst e2
      exact .lst (.of (lb _ _ h)) (toPys_dp le lb ds ps e1 r)
  | .ro _, _, _, e, _ => by cases e
  | .dK _ _, _, _, e, _ => by cases e
  | .dT _ _, _, _, e, _ => by cases e
  | .ins _ _, _, _, e, _ => by cases e
  | .exc _ _, _, _, e, _ => by cases e
  | .cls _, _, _, e, _ => by cases e
  | .fn _, _, _, e, _ => by cases e
  | .loc _, _, _, e, _ => by cases e
theorem toPys_dp (le : HLe R.Fz H) (lb : HLe R.Bz H) : ∀ (ds : List D) (ps : List PyData) {vs : List V}, toPys ds = some ps → Reps X R vs ds → DpAll X.K H vs ps
  | [], ps, _, e, r => by cases r; cases e; exact .nil
  | d :: ds, ps, _, e, r => by
    cases r with
    | cons a b =>
      simp only [toPys] at e
      split at e
      · rename_i p qs e1 e2
        cases e
        exact .cons (toPy_dp le lb d p e1 a) (toPys_dp le lb ds qs e2 b)
      · cases e
end
theorem RepT.dp {v : V} {d : D} {p : PyData} (S : StOk X R H sto) (r : RepT X R H v d) (e : toPy d = some p) : Dp X.K H v p := by
  rcases r with r | ⟨a, vs, ds, e1, e2, e3, m, r⟩
  · exact toPy_dp S.fz S.bz d p e r
  · subst e1 e2
    simp only [toPy, Option.map_eq_some_iff] at e
    obtain ⟨ps, e4, e5⟩ := e
    subst e5
    exact .lst (.of e3) (toPys_dp S.fz S.bz ds ps e4 r)
end

/-! ### operators -/
section
variable {X : Sx}
theorem dec_of {p : Prop} [Decidable p] (h : decide p = true) : p := of_decide_eq_true h
abbrev rAdd4 (K : PySem.W.Frag) : R2 := fun x y H Q => rI0 (fun i j => .int (i + j)) x y H Q ∨ (∃ i j, x = .str i ∧ y = .str j ∧ i.length + j.length ≤ sizeLine ∧ Q (.str (i ++ j)) H) ∨ rCatA K x y H Q ∨ rCat x y H Q
theorem op_add4 {C : Cx} : OpR C (binaryOp .Add) (rAdd4 C.K) := op_add.or (op_add_str.or (op_catA.or op_cat))
theorem g_add : Op2 X (rAdd4 X.K) (binD .Add) := by
  intro W' R H sto x y dx dy k Q S rx ry o q
  unfold binD at o
  split at o
  · rw [rx.int, ry.int]
    refine .inl ⟨_, _, rfl, rfl, ?_⟩
    exact got S (.int _) (q _ _ (Out.pure o))
  · rw [rx.str, ry.str]
    obtain ⟨hl, o⟩ := o.needB
    exact .inr (.inl ⟨_, _, rfl, rfl, lenOk_line hl, got S (.str _) (q _ _ (Out.pure o))⟩)
  · obtain ⟨hl, o⟩ := o.needB
    obtain ⟨a, vs, rfl, ha, ra⟩ := rx.tup S
    obtain ⟨b, ws, rfl, hb, rb⟩ := ry.tup S
    have q := q _ _ (Out.pure o)
    refine .inr (.inr (.inl ⟨a, b, vs, ws, rfl, rfl, ha, hb, by rw [ra.length, rb.length]; exact lenOk_line hl, fun e => ?_, fun _ e => ?_, fun _ _ p hp => ?_⟩))
    · subst e
      cases ra
      rcases ry with ry | ⟨_, _, _, z, _⟩
      · exact got S ry q
      · cases z
    · subst e
      cases rb
      rcases rx with rx | ⟨_, _, _, z, _⟩
      · exact got S (by rw [List.append_nil]; exact rx) q
      · cases z
    · exact new_val S hp (fun R' le e => .tup e (Reps.mono le _ (ra.append rb))) q
  · obtain ⟨hl, o⟩ := o.needB
    obtain ⟨a, vs, rfl, ha, ra⟩ := rx.lst S
    obtain ⟨b, ws, rfl, hb, rb⟩ := ry.lst S
    have q := q _ _ (Out.pure o)
    exact .inr (.inr (.inr ⟨a, b, vs, ws, rfl, rfl, ha, hb, by rw [ra.length, rb.length]; exact lenOk_line hl, fun p hp =>
      new_val S hp (fun R' le e => .lst e (Reps.mono le _ (ra.append rb))) q⟩))
  · exact o.elim
  · exact o.elim
  · exact o.elim
theorem g_sub : Op2 X (rI0 fun i j => .int (i - j)) (binD .Sub) := by
  intro W' R H sto x y dx dy k Q S rx ry o q
  unfold binD at o
  split at o
  · rw [rx.int, ry.int]
    exact ⟨_, _, rfl, rfl, got S (.int _) (q _ _ (Out.pure o))⟩
  all_goals exact o.elim
theorem repL_id {xs : List D} {k : Int} (e : xs = [] ∨ k = 1) : repL xs k = xs := by
  unfold repL
  rcases e with e | e
  · subst e
    induction k.toNat with
    | zero => rfl
    | succ n ih => rw [List.replicate_succ, List.flatten_cons, ih]; rfl
  · rw [e]; show (List.replicate 1 xs).flatten = xs; simp
abbrev rMul2 (K : PySem.W.Frag) : R2 := fun x y H Q => rI CMulW (fun i j => .int (i * j)) x y H Q ∨ rRep x y H Q ∨ rRepA K x y H Q
theorem op_mul2 {C : Cx} : OpR C (binaryOp .Mult) (rMul2 C.K) := op_mulW.or (op_rep.or op_repA)
theorem g_mul : Op2 X (rMul2 X.K) (binD .Mult) := by
  intro W' R H sto x y dx dy k Q S rx ry o q
  unfold binD at o
  split at o
  · rw [rx.int, ry.int]
    obtain ⟨h, o⟩ := o.needB
    have h2 := dec_of h
    exact .inl ⟨_, _, rfl, rfl, h2, got S (.int _) (q _ _ (Out.pure o))⟩
  · exact o.elim
  · exact o.elim
  · exact o.elim
  · obtain ⟨h, o⟩ := o.needB
    obtain ⟨a, vs, rfl, ha, ra⟩ := rx.lst S
    rw [ry.int]
    have q := q _ _ (Out.pure o)
    rw [Bool.and_eq_true] at h
    have h1 := of_decide_eq_true h.1
    refine .inr (.inl ⟨a, _, vs, rfl, rfl, ha, by omega, by omega, by rw [ra.length]; exact lenOk_line h.2, fun p hp => ?_⟩)
    exact new_val S hp (fun R' le e => .lst e (Reps.mono le _ (ra.rep _))) q
  · obtain ⟨h, o⟩ := o.needB
    obtain ⟨a, vs, rfl, ha, ra⟩ := rx.tup S
    rw [ry.int]
    have q := q _ _ (Out.pure o)
    rw [Bool.and_eq_true] at h
    have h1 := of_decide_eq_true h.1
    refine .inr (.inr ⟨a, _, vs, rfl, rfl, ha, h1.1, h1.2, by rw [ra.length]; exact lenOk_line h.2, fun e => ?_, fun p hp => ?_⟩)
    · rw [repL_id (by
        rcases e with e | e
        · subst e; cases ra; exact .inl rfl
        · exact .inr e)] at q
      rcases rx with rx | ⟨_, _, _, z, _⟩
      · exact got S rx q
      · cases z
    · exact new_val S hp (fun R' le e => .tup e (Reps.mono le _ (ra.rep _))) q
  · exact o.elim
def CDivQ (i j : Int) : Prop := 0 < j ∧ Builtin.divisionGoesByPylong i j = false
theorem op_fdivQ {C : Cx} : OpR C (binaryOp .FloorDiv) (rI CDivQ fun i j => .int (i / j)) := opI fun i j _ _ _ _ _ hc q => by
  have h1 : (0 : Int) < j := hc.1
  exact PyProof.Rows.floordiv_int (by omega) (by rw [Int.fdiv_eq_ediv_of_nonneg i (by omega)]; exact q) (.inl hc.2)
theorem pyDiv_ok {i j : Int} (h : pyDiv i j = true) : CDivQ i j := by
  unfold pyDiv at h
  rw [Bool.and_eq_true] at h
  exact ⟨of_decide_eq_true h.1, by simpa using h.2⟩
theorem g_fdiv : Op2 X (rI CDivQ fun i j => .int (i / j)) (binD .FloorDiv) := by
  intro W' R H sto x y dx dy k Q S rx ry o q
  unfold binD at o
  split at o
  · rw [rx.int, ry.int]
    obtain ⟨h, o⟩ := o.needB
    exact ⟨_, _, rfl, rfl, pyDiv_ok h, got S (.int _) (q _ _ (Out.pure o))⟩
  all_goals exact o.elim
theorem g_mod : Op2 X (rI (fun _ j => 0 < j) fun i j => .int (i % j)) (binD .Mod) := by
  intro W' R H sto x y dx dy k Q S rx ry o q
  unfold binD at o
  split at o
  · rw [rx.int, ry.int]
    obtain ⟨h, o⟩ := o.needB
    have h2 := dec_of h
    exact ⟨_, _, rfl, rfl, h2, got S (.int _) (q _ _ (Out.pure o))⟩
  all_goals exact o.elim
theorem g_pow : Op2 X (rI CPow fun i j => .int (i ^ j.toNat)) (binD .Pow) := by
  intro W' R H sto x y dx dy k Q S rx ry o q
  unfold binD at o
  split at o
  · rw [rx.int, ry.int]
    obtain ⟨h, o⟩ := o.needB
    have h2 := dec_of h
    exact ⟨_, _, rfl, rfl, h2, got S (.int _) (q _ _ (Out.pure o))⟩
  all_goals exact o.elim
theorem g_shr : Op2 X (rI (fun _ j => 0 ≤ j) fun i j => .int (i / 2 ^ j.toNat)) (binD .RShift) := by
  intro W' R H sto x y dx dy k Q S rx ry o q
  unfold binD at o
  split at o
  · rw [rx.int, ry.int]
    obtain ⟨h, o⟩ := o.needB
    have h2 := dec_of h
    exact ⟨_, _, rfl, rfl, h2, got S (.int _) (q _ _ (Out.pure o))⟩
  all_goals exact o.elim
theorem g_band : Op2 X (rI0 fun i j => .int (Builtin.bitAnd i j)) (binD .BitAnd) := by
  intro W' R H sto x y dx dy k Q S rx ry o q
  unfold binD at o
  split at o
  · rw [rx.int, ry.int]
    exact ⟨_, _, rfl, rfl, got S (.int _) (q _ _ (Out.pure o))⟩
  all_goals exact o.elim
theorem g_bor : Op2 X (rI0 fun i j => .int (Builtin.bitOr i j)) (binD .BitOr) := by
  intro W' R H sto x y dx dy k Q S rx ry o q
  unfold binD at o
  split at o
  · rw [rx.int, ry.int]
    exact ⟨_, _, rfl, rfl, got S (.int _) (q _ _ (Out.pure o))⟩
  all_goals exact o.elim
theorem g_bxor : Op2 X (rI0 fun i j => .int (Builtin.bitXor i j)) (binD .BitXor) := by
  intro W' R H sto x y dx dy k Q S rx ry o q
  unfold binD at o
  split at o
  · rw [rx.int, ry.int]
    exact ⟨_, _, rfl, rfl, got S (.int _) (q _ _ (Out.pure o))⟩
  all_goals exact o.elim

/-! ### comparisons -/
theorem eqD_dp {R : Rl} {H : Hp} {sto : Sto} {x y : V} {dx dy : D} {b : Bool} (S : StOk X R H sto) (rx : RepT X R H x dx) (ry : RepT X R H y dy) (e : eqD dx dy = some b) :
    ∃ d d', Dp X.K H x d ∧ Dp X.K H y d' ∧ SeqAt.shaped d = true ∧ SeqAt.shaped d' = true ∧ PyData.eqv d d' = b := by
  unfold eqD at e
  split at e
  · rename_i p p' e1 e2
    split at e
    · rename_i h
      rw [Bool.and_eq_true] at h
      exact ⟨p, p', rx.dp S e1, ry.dp S e2, h.1, h.2, Option.some.inj e⟩
    · cases e
  · cases e
theorem g_eq : Op2 X (rEqD X.K) (cmpD .Eq) := by
  intro W' R H sto x y dx dy k Q S rx ry o q
  obtain ⟨b, e, o⟩ := o.ofOptB
  obtain ⟨d, d', h1, h2, h3, h4, h5⟩ := eqD_dp S rx ry e
  exact ⟨d, d', h1, h2, h3, h4, by rw [h5]; exact got S (.bl _) (q _ _ (Out.pure o))⟩
theorem g_ne : Op2 X (rNeD X.K) (cmpD .NotEq) := by
  intro W' R H sto x y dx dy k Q S rx ry o q
  obtain ⟨b, e, o⟩ := o.ofOptB
  obtain ⟨d, d', h1, h2, h3, h4, h5⟩ := eqD_dp S rx ry e
  exact ⟨d, d', h1, h2, h3, h4, by rw [h5]; exact got S (.bl _) (q _ _ (Out.pure o))⟩
abbrev rLt3 (K : PySem.W.Frag) : R2 := fun x y H Q => rI0 (fun i j => .bl (decide (i < j))) x y H Q ∨ (∃ i j, x = .str i ∧ y = .str j ∧ Q (.bl (decide (i.cps.toList < j.cps.toList))) H) ∨ rLtT K x y H Q
theorem op_lt3 {C : Cx} (hu : C.A.units < cLine) : OpR C (compareOp .Lt) (rLt3 C.K) := op_lt.or (op_lt_str.or (op_ltT hu))
theorem g_lt : Op2 X (rLt3 X.K) (cmpD .Lt) := by
  intro W' R H sto x y dx dy k Q S rx ry o q
  obtain ⟨b, e, o⟩ := o.ofOptB
  have q := q _ _ (Out.pure o)
  unfold ltD at e
  split at e
  · cases e
    rw [rx.int, ry.int]
    exact .inl ⟨_, _, rfl, rfl, got S (.bl _) q⟩
  · cases e
    rw [rx.str, ry.str]
    exact .inr (.inl ⟨_, _, rfl, rfl, got S (.bl _) q⟩)
  · split at e
    · rename_i n m e1 e2
      cases e
      obtain ⟨a, vs, rfl, ha, ra⟩ := rx.tup S
      obtain ⟨b, ws, rfl, hb, rb⟩ := ry.tup S
      rw [ra.ints e1] at ha
      rw [rb.ints e2] at hb
      exact .inr (.inr ⟨a, b, n, m, rfl, rfl, ha, hb, got S (.bl _) q⟩)
    · cases e
  · cases e
theorem g_le : Op2 X (rI0 fun i j => .bl (decide (i ≤ j))) (cmpD .LtE) := by
  intro W' R H sto x y dx dy k Q S rx ry o q
  unfold cmpD at o
  dsimp only at o
  split at o
  · rw [rx.int, ry.int]
    exact ⟨_, _, rfl, rfl, got S (.bl _) (q _ _ (Out.pure o))⟩
  · exact o.elim
theorem g_gt : Op2 X (rI0 fun i j => .bl (decide (j < i))) (cmpD .Gt) := by
  intro W' R H sto x y dx dy k Q S rx ry o q
  unfold cmpD at o
  dsimp only at o
  split at o
  · rw [rx.int, ry.int]
    exact ⟨_, _, rfl, rfl, got S (.bl _) (q _ _ (Out.pure o))⟩
  · exact o.elim
theorem g_ge : Op2 X (rI0 fun i j => .bl (decide (j ≤ i))) (cmpD .GtE) := by
  intro W' R H sto x y dx dy k Q S rx ry o q
  unfold cmpD at o
  dsimp only at o
  split at o
  · rw [rx.int, ry.int]
    exact ⟨_, _, rfl, rfl, got S (.bl _) (q _ _ (Out.pure o))⟩
  · exact o.elim
end
end Bc

set_option linter.all false
set_option autoImplicit false
set_option maxRecDepth 100000
set_option maxHeartbeats 1000000
namespace Bc
open PySem PySem.Spec L2

section
variable {X : Sx}
/-! ### in, is -/
/-- what a dict holds at a key -/
def DHas (x y : V) (H : Hp) (b : Bool) : Prop := ∃ (a : Addr) (o : Option V), y = .ref a ∧ DGet H a x o ∧ b = o.isSome
theorem op_inDict {C : Cx} (hu : C.A.units + 65 < cLine) : OpR C (compareOp .In) (fun x y H Q => ∃ b, DHas x y H b ∧ Q (.bl b) H) := by
  intro pins s σ H x y v u Q I rx ry h
  obtain ⟨b, ⟨a, o, rfl, g, rfl⟩, q⟩ := h
  obtain rfl : u = Value.ref a := ry
  exact d_in (by omega) I g rx fun s3 I3 => ⟨.bl o.isSome, H, I3, rfl, q⟩
theorem op_notInDict {C : Cx} (hu : C.A.units + 65 < cLine) : OpR C (compareOp .NotIn) (fun x y H Q => ∃ b, DHas x y H b ∧ Q (.bl (!b)) H) := by
  intro pins s σ H x y v u Q I rx ry h
  obtain ⟨b, ⟨a, o, rfl, g, rfl⟩, q⟩ := h
  obtain rfl : u = Value.ref a := ry
  exact d_notIn (by omega) I g rx fun s3 I3 => ⟨.bl (!o.isSome), H, I3, rfl, q⟩
/-- in a tuple, by data -/
def DTup (K : PySem.W.Frag) (x y : V) (H : Hp) (b : Bool) : Prop := ∃ d ds, Dp K H x d ∧ Dp K H y (.tuple ds) ∧ SeqAt.shaped d = true ∧ SeqAt.shaped (.tuple ds) = true ∧ b = ds.any fun z => PyData.eqv z d
theorem op_inTup {C : Cx} (hu : C.A.units + 65 < cLine) : OpR C (compareOp .In) (fun x y H Q => ∃ b, DTup C.K x y H b ∧ Q (.bl b) H) := by
  intro pins s σ H x y v u Q I rx ry h
  obtain ⟨b, ⟨d, ds, hd, he, sd, se, rfl⟩, q⟩ := h
  obtain ⟨as, r1⟩ := Dp.reads I d x v hd rx
  obtain ⟨bs, r2⟩ := Dp.reads I (.tuple ds) y u he ry
  exact SeqAt.in_tuple_reads r2 r1 (SeqAt.canLay_of_shaped se) (SeqAt.canLay_of_shaped sd) (PyProof.Rows.room_in_shaped sd hu) ⟨.bl _, H, I, rfl, q⟩
theorem op_notInTup {C : Cx} (hu : C.A.units + 65 < cLine) : OpR C (compareOp .NotIn) (fun x y H Q => ∃ b, DTup C.K x y H b ∧ Q (.bl (!b)) H) := by
  intro pins s σ H x y v u Q I rx ry h
  obtain ⟨b, ⟨d, ds, hd, he, sd, se, rfl⟩, q⟩ := h
  obtain ⟨as, r1⟩ := Dp.reads I d x v hd rx
  obtain ⟨bs, r2⟩ := Dp.reads I (.tuple ds) y u he ry
  exact SeqAt.notIn_tuple_reads r2 r1 (SeqAt.canLay_of_shaped se) (SeqAt.canLay_of_shaped sd) (PyProof.Rows.room_in_shaped sd hu) ⟨.bl _, H, I, rfl, q⟩
abbrev rIn3 (K : PySem.W.Frag) : R2 := fun x y H Q => rInD K x y H Q ∨ (∃ (c : Nat) (z : Str), x = .str ⟨#[c]⟩ ∧ y = .str z ∧ Q (.bl (decide (c ∈ z.cps.toList))) H) ∨ rIn K false x y H Q ∨ (∃ b, DHas x y H b ∧ Q (.bl b) H) ∨ ∃ b, DTup K x y H b ∧ Q (.bl b) H
theorem op_in3 {C : Cx} (hu : C.A.units + 65 < cLine) : OpR C (compareOp .In) (rIn3 C.K) := (op_inD hu).or (op_in_sign.or (op_in_seq.or ((op_inDict hu).or (op_inTup hu))))
abbrev rNotIn3 (K : PySem.W.Frag) : R2 := fun x y H Q => rNotInD K x y H Q ∨ (∃ (c : Nat) (z : Str), x = .str ⟨#[c]⟩ ∧ y = .str z ∧ Q (.bl (!decide (c ∈ z.cps.toList))) H) ∨ rIn K true x y H Q ∨ (∃ b, DHas x y H b ∧ Q (.bl (!b)) H) ∨ ∃ b, DTup K x y H b ∧ Q (.bl (!b)) H
theorem op_notIn3 {C : Cx} (hu : C.A.units + 65 < cLine) : OpR C (compareOp .NotIn) (rNotIn3 C.K) := (op_notInD hu).or (op_notIn_sign.or (op_notIn_seq.or ((op_notInDict hu).or (op_notInTup hu))))
theorem key_v {R : Rl} {v : V} {d : D} {k : L2.Key} (r : Rep X R v d) (e : keyOf d = some k) : v = kV k := by
  cases r <;> first | (cases e; done) | (cases e; rfl)
theorem keys_v {R : Rl} : ∀ {vs : List V} {ds : List D} {ks : List L2.Key}, Reps X R vs ds → keysOf ds = some ks → vs = ks.map kV
  | _, _, _, .nil, e => by cases e; rfl
  | _, _, ks, .cons (d := d) (ds := ds) r t, e => by
    unfold keysOf at e
    split at e
    · rename_i k ks' e1 e2
      cases e
      rw [key_v r e1, keys_v t e2]; rfl
    · cases e
theorem Repk.val {R : Rl} (k : L2.Key) : ∀ {vs : List (L2.Key × V)} {ds : List (L2.Key × D)}, Repk X R vs ds → (dVal ds k = none ∧ valV vs k = none) ∨ ∃ d v, dVal ds k = some d ∧ valV vs k = some v ∧ Rep X R v d
  | _, _, .nil => .inl ⟨rfl, rfl⟩
  | _, _, .cons (k := j) (v := v) (d := d) r t => by
    by_cases h : j = k
    · refine .inr ⟨d, v, ?_, valV_pos h, r⟩
      simp [dVal, List.find?_cons, h]
    · rcases Repk.val k t with ⟨e1, e2⟩ | ⟨d', v', e1, e2, r'⟩
      · exact .inl ⟨by simpa [dVal, List.find?_cons, h] using e1, (valV_neg h).trans e2⟩
      · exact .inr ⟨d', v', by simpa [dVal, List.find?_cons, h] using e1, (valV_neg h).trans e2, r'⟩
theorem Rept.val {R : Rl} (k : List L2.Key) : ∀ {vs : List (List L2.Key × V)} {ds : List (List L2.Key × D)}, Rept X R vs ds → (dVal ds k = none ∧ valV vs k = none) ∨ ∃ d v, dVal ds k = some d ∧ valV vs k = some v ∧ Rep X R v d
  | _, _, .nil => .inl ⟨rfl, rfl⟩
  | _, _, .cons (k := j) (v := v) (d := d) r t => by
    by_cases h : j = k
    · refine .inr ⟨d, v, ?_, valV_pos h, r⟩
      simp [dVal, List.find?_cons, h]
    · rcases Rept.val k t with ⟨e1, e2⟩ | ⟨d', v', e1, e2, r'⟩
      · exact .inl ⟨by simpa [dVal, List.find?_cons, h] using e1, (valV_neg h).trans e2⟩
      · exact .inr ⟨d', v', by simpa [dVal, List.find?_cons, h] using e1, (valV_neg h).trans e2, r'⟩
theorem RepT.dK {R : Rl} {H : Hp} {sto : Sto} {v : V} {ds : List (L2.Key × D)} (S : StOk X R H sto) (r : RepT X R H v (.dK true ds)) : ∃ a vs, v = .ref a ∧ H a = some (.dK vs) ∧ Repk X R vs ds := by
  rcases r with r | ⟨_, _, _, e, _⟩
  · cases r with | dK e r => exact ⟨_, _, rfl, S.fz _ _ e, r⟩
  · cases e
theorem RepT.dT {R : Rl} {H : Hp} {sto : Sto} {v : V} {ds : List (List L2.Key × D)} (S : StOk X R H sto) (r : RepT X R H v (.dT true ds)) : ∃ a vs, v = .ref a ∧ H a = some (.dT vs) ∧ Rept X R vs ds := by
  rcases r with r | ⟨_, _, _, e, _⟩
  · cases r with | dT e r => exact ⟨_, _, rfl, S.fz _ _ e, r⟩
  · cases e
theorem inK_has {R : Rl} {H : Hp} {sto : Sto} {x y : V} {dx : D} {kvs : List (L2.Key × D)} {b : Bool} (S : StOk X R H sto) (rx : RepT X R H x dx) (ry : RepT X R H y (.dK true kvs)) (e : inK kvs dx = some b) : DHas x y H b := by
  obtain ⟨k, ek, rfl⟩ := Option.map_eq_some_iff.mp e
  obtain ⟨a, vs, rfl, h, r⟩ := ry.dK S
  have rx : Rep X R x dx := by
    rcases rx with rx | ⟨_, _, _, e, _⟩
    · exact rx
    · subst e; cases ek
  rw [key_v rx ek]
  refine ⟨a, _, rfl, .k h, ?_⟩
  rcases r.val k with ⟨e1, e2⟩ | ⟨d, v, e1, e2, _⟩ <;> (rw [e1, e2]; try rfl)
theorem inT_has {R : Rl} {H : Hp} {sto : Sto} {x y : V} {dx : D} {kvs : List (List L2.Key × D)} {b : Bool} (S : StOk X R H sto) (rx : RepT X R H x dx) (ry : RepT X R H y (.dT true kvs)) (e : inT kvs dx = some b) : DHas x y H b := by
  unfold inT at e
  split at e
  · obtain ⟨k, ek, rfl⟩ := Option.map_eq_some_iff.mp e
    obtain ⟨a, vs, rfl, h, r⟩ := ry.dT S
    obtain ⟨b, ws, rfl, hb, rb⟩ := rx.tupX S
    rw [keys_v rb ek] at hb
    refine ⟨a, _, rfl, .t h hb, ?_⟩
    rcases r.val k with ⟨e1, e2⟩ | ⟨d, v, e1, e2, _⟩ <;> (rw [e1, e2]; try rfl)
  · cases e
theorem flat_v {R : Rl} {x : V} {d : D} (r : Rep X R x d) (h : flatD d = true) : flatV x = true := by
  cases r <;> first | rfl | cases h
theorem eq_flat {R : Rl} {x y : V} {d e : D} (rx : Rep X R x d) (ry : Rep X R y e) (h1 : flatD d = true) (h2 : flatD e = true) : eqV x y = eqFlat d e := by
  cases rx <;> try (cases h1)
  all_goals (cases ry <;> first | rfl | (cases h2))
theorem all_flat {R : Rl} : ∀ {xs : List V} {ds : List D}, Reps X R xs ds → ds.all flatD = true → xs.all flatV = true
  | _, _, .nil, _ => rfl
  | _, _, .cons r t, h => by
    rw [List.all_cons, Bool.and_eq_true] at h
    rw [List.all_cons, flat_v r h.1, all_flat t h.2]; rfl
theorem any_flat {R : Rl} {x : V} {d : D} (rx : Rep X R x d) (h1 : flatD d = true) : ∀ {xs : List V} {ds : List D}, Reps X R xs ds → ds.all flatD = true → inV x xs = ds.any fun e => eqFlat e d
  | _, _, .nil, _ => rfl
  | _, _, .cons (vs := vs) (ds := ds) r t, h => by
    rw [List.all_cons, Bool.and_eq_true] at h
    have ih := any_flat rx h1 t h.2
    unfold inV at ih ⊢
    rw [List.any_cons, List.any_cons, eq_flat r rx h.1 h1, ih]
theorem RepT.flat {R : Rl} {H : Hp} {x : V} {d : D} (r : RepT X R H x d) (h : flatD d = true) : Rep X R x d := by
  rcases r with r | ⟨_, _, _, e, _⟩
  · exact r
  · subst e; cases h
theorem g_in : Op2 X (rIn3 X.K) (cmpD .In) := by
  intro W' R H sto x y dx dy k Q S rx ry o q
  obtain ⟨b, e, o⟩ := o.ofOptB
  have q := q _ _ (Out.pure o)
  unfold inD at e
  split at e
  · exact .inr (.inr (.inr (.inl ⟨b, inK_has S rx ry e, got S (.bl _) q⟩)))
  · exact .inr (.inr (.inr (.inl ⟨b, inT_has S rx ry e, got S (.bl _) q⟩)))
  · split at e
    · rename_i p ps e1 e2
      split at e
      · rename_i h
        rw [Bool.and_eq_true] at h
        cases e
        exact .inl ⟨p, ps, rx.dp S e1, ry.dp S (by simp only [toPy, e2]; rfl), h.1, h.2, got S (.bl _) q⟩
      · cases e
    · cases e
  · split at e
    · rename_i h
      rw [Bool.and_eq_true] at h
      cases e
      obtain ⟨b, ws, rfl, hb, rb⟩ := ry.tup S
      refine .inr (.inr (.inl ⟨b, ws, rfl, .inr hb, flat_v (rx.flat h.1) h.1, all_flat rb h.2, ?_⟩))
      have q2 : Q (.bl _) H := got S (.bl _) q
      rw [if_neg Bool.false_ne_true, any_flat (rx.flat h.1) h.1 rb h.2]
      exact q2
    · split at e
      · rename_i p ps e1 e2
        split at e
        · rename_i h
          rw [Bool.and_eq_true] at h
          cases e
          exact .inr (.inr (.inr (.inr ⟨_, ⟨p, ps, rx.dp S e1, ry.dp S (by simp only [toPy, e2]; rfl), h.1, h.2, rfl⟩, got S (.bl _) q⟩)))
        · cases e
      · cases e
  · split at e
    · split at e
      · rename_i h
        cases e
        rw [rx.str, ry.str]
        refine .inr (.inl ⟨_, _, ?_, rfl, got S (.bl _) q⟩)
        exact congrArg V.str (sign_eq h)
      · cases e
    · cases e
  · cases e
theorem g_notIn : Op2 X (rNotIn3 X.K) (cmpD .NotIn) := by
  intro W' R H sto x y dx dy k Q S rx ry o q
  obtain ⟨b, e, o⟩ := o.ofOptB
  have q := q _ _ (Out.pure o)
  unfold inD at e
  split at e
  · exact .inr (.inr (.inr (.inl ⟨b, inK_has S rx ry e, got S (.bl _) q⟩)))
  · exact .inr (.inr (.inr (.inl ⟨b, inT_has S rx ry e, got S (.bl _) q⟩)))
  · split at e
    · rename_i p ps e1 e2
      split at e
      · rename_i h
        rw [Bool.and_eq_true] at h
        cases e
        exact .inl ⟨p, ps, rx.dp S e1, ry.dp S (by simp only [toPy, e2]; rfl), h.1, h.2, got S (.bl _) q⟩
      · cases e
    · cases e
  · split at e
    · rename_i h
      rw [Bool.and_eq_true] at h
      cases e
      obtain ⟨b, ws, rfl, hb, rb⟩ := ry.tup S
      refine .inr (.inr (.inl ⟨b, ws, rfl, .inr hb, flat_v (rx.flat h.1) h.1, all_flat rb h.2, ?_⟩))
      have q2 : Q (.bl _) H := got S (.bl _) q
      rw [if_pos rfl, any_flat (rx.flat h.1) h.1 rb h.2]
      exact q2
    · split at e
      · rename_i p ps e1 e2
        split at e
        · rename_i h
          rw [Bool.and_eq_true] at h
          cases e
          exact .inr (.inr (.inr (.inr ⟨_, ⟨p, ps, rx.dp S e1, ry.dp S (by simp only [toPy, e2]; rfl), h.1, h.2, rfl⟩, got S (.bl _) q⟩)))
        · cases e
      · cases e
  · split at e
    · split at e
      · rename_i h
        cases e
        rw [rx.str, ry.str]
        refine .inr (.inl ⟨_, _, ?_, rfl, got S (.bl _) q⟩)
        exact congrArg V.str (sign_eq h)
      · cases e
    · cases e
  · cases e
abbrev rIs2 : R2 := fun x y H Q => rIsB x y H Q ∨ (y = .non ∧ Q (.bl (decide (x = .non))) H)
abbrev rNot2 : R2 := fun x y H Q => rNotB x y H Q ∨ (y = .non ∧ Q (.bl (!decide (x = .non))) H)
theorem op_is2 {C : Cx} : OpR C (compareOp .Is) rIs2 := op_isBl.or op_isN
theorem op_not2 {C : Cx} : OpR C (compareOp .IsNot) rNot2 := op_notBl.or op_notN
theorem isD_ok {R : Rl} {H : Hp} {x y : V} {dx dy : D} {b : Bool} (rx : RepT X R H x dx) (ry : RepT X R H y dy) (e : isD dx dy = some b) :
    (∃ a c, x = .bl a ∧ y = .bl c ∧ decide (a = c) = b) ∨ (y = .non ∧ decide (x = V.non) = b) := by
  unfold isD at e
  split at e
  · cases e; exact .inl ⟨_, _, rx.bl, ry.bl, rfl⟩
  · cases e; exact .inr ⟨ry.non, by rw [rx.non]; rfl⟩
  all_goals first
    | (cases e
       refine .inr ⟨ry.non, ?_⟩
       rcases rx with rx | ⟨_, _, _, e1, e2, _⟩
       · cases rx <;> rfl
       · subst e2; rfl)
    | cases e
theorem g_is : Op2 X rIs2 (cmpD .Is) := by
  intro W' R H sto x y dx dy k Q S rx ry o q
  obtain ⟨b, e, o⟩ := o.ofOptB
  have q := q _ _ (Out.pure o)
  rcases isD_ok rx ry e with ⟨a, c, e1, e2, e3⟩ | ⟨e1, e2⟩
  · exact .inl ⟨a, c, e1, e2, by rw [e3]; exact got S (.bl _) q⟩
  · exact .inr ⟨e1, by rw [e2]; exact got S (.bl _) q⟩
theorem g_isNot : Op2 X rNot2 (cmpD .IsNot) := by
  intro W' R H sto x y dx dy k Q S rx ry o q
  obtain ⟨b, e, o⟩ := o.ofOptB
  have q := q _ _ (Out.pure o)
  rcases isD_ok rx ry e with ⟨a, c, e1, e2, e3⟩ | ⟨e1, e2⟩
  · exact .inl ⟨a, c, e1, e2, by rw [e3]; exact got S (.bl _) q⟩
  · exact .inr ⟨e1, by rw [e2]; exact got S (.bl _) q⟩

/-! ### truth -/
theorem tru_of {R : Rl} {H : Hp} {sto : Sto} {x : V} {d : D} {b : Bool} (S : StOk X R H sto) (r : RepT X R H x d) (e : truth d = some b) : TruV X.K x H b := by
  unfold truth at e
  split at e
  · cases e; rw [r.non]; rfl
  · cases e; rw [r.bl]; rfl
  · cases e; rw [r.int]; rfl
  · split at e
    · rename_i h
      cases e; rw [r.str]; exact ⟨by rw [sizeLine_eq]; exact h, rfl⟩
    · cases e
  · cases e
    obtain ⟨a, vs, rfl, h, rs⟩ := r.tup S
    exact .inr (.inl ⟨vs, h, by cases rs <;> rfl⟩)
  · cases e
    obtain ⟨a, vs, rfl, h, rs⟩ := r.lst S
    exact .inl ⟨vs, .of h, by cases rs <;> rfl⟩
  · cases e
    obtain ⟨a, vs, rfl, h, rs⟩ := r.ro S
    exact .inl ⟨vs, h, by cases rs <;> rfl⟩
  · cases e
end

section
variable {X : Sx} {W : WD} {C : Cx} {a b c : Expr} {fa fb fc : Env → M D} {pos : Pos}
theorem dt_plain (hK : X.K = C.K) (ha : PE C a (tT X W fa)) (he : ∀ whole, isTrue a C.env whole = (do let v ← whole; standAt a.pos; holding [v] (truthy v))) :
    PT C a (tB X W fun env => (fa env).bind truM) := by
  refine (pt_truth ha he).weak fun σ H Q ⟨R, env, sto, S, E, o⟩ => ?_
  refine useT S E o fun v H1 R1 d s1 g1 S1 E1 r1 o1 => ?_
  obtain ⟨k, e, o2⟩ := o1.ofOpt
  refine ⟨k, ?_, o2 H1 R1 g1 S1⟩
  rw [← hK]; exact tru_of S1 r1 e
theorem dt_cmp {o : CmpOp} {r : R2} {g : D → D → M D} (ho : OpR C (compareOp o) r) (hg : Op2 X r g) (ha : PE C a (tT X W fa)) (hb : PE C b (tT X W fb)) (hm : behindInMarks o b = false) (hbl : ∀ x y W' (sto : Sto) (k : D → Sto → Prop), Out W' (g x y sto) k → Out W' (g x y sto) fun d s => k d s ∧ ∃ b, d = .bl b) :
    PT C (.Compare a [o] [b] pos) (tB X W fun env => ((fa env).bind fun x => (fb env).bind fun y => g x y).bind truM) := by
  refine (pt_cmpR ho ha hb hm).weak fun σ H Q ⟨R, env, sto, S, E, o⟩ => ?_
  have o := Out.bind o
  refine useT S E o fun v H1 R1 d s1 g1 S1 E1 r1 o1 => ?_
  have o1 : Out (wE X W R1 H1 σ) (((fb env).bind fun y => g d y) s1) _ := o1.imp (fun _ _ q => q) fun _ _ _ w H' R' g' S' => w H' R' (g1.trans g') S'
  refine useT S1 E1 o1 fun v2 H2 R2 d2 s2 g2 S2 E2 r2 o2 => ?_
  refine hg _ R2 H2 s2 v v2 d d2 _ _ S2 (r1.grow g2) r2 (hbl _ _ _ _ _ o2) fun d' s' q v' H' R' g' S' r' => ?_
  obtain ⟨q, b, rfl⟩ := q
  cases r'
  exact ⟨b, rfl, Out.pure (show Out _ (M.pure b s') _ from q) H' R' ((g1.trans g2).trans g') S'⟩
theorem bl_cmp (o : CmpOp) : ∀ x y W' (sto : Sto) (k : D → Sto → Prop), Out W' (cmpD o x y sto) k → Out W' (cmpD o x y sto) fun d s => k d s ∧ ∃ b, d = .bl b := by
  intro x y W' sto k h
  have gen : ∀ (ob : Option Bool) (f : Bool → Bool), Out W' (((ofOpt ob).bind fun b => (pure (D.bl (f b)) : M D)) sto) k → Out W' (((ofOpt ob).bind fun b => (pure (D.bl (f b)) : M D)) sto) fun d s => k d s ∧ ∃ b, d = .bl b := fun ob f h => by
    cases ob with
    | none => exact h
    | some b => exact ⟨h, _, rfl⟩
  cases o with
  | Eq => exact gen _ (fun b => b) h
  | NotEq => exact gen _ (fun b => !b) h
  | Lt => exact gen _ (fun b => b) h
  | In => exact gen _ (fun b => b) h
  | NotIn => exact gen _ (fun b => !b) h
  | Is => exact gen _ (fun b => b) h
  | IsNot => exact gen _ (fun b => !b) h
  | LtE => unfold cmpD at h ⊢; dsimp only at h ⊢; split at h <;> first | exact ⟨h, _, rfl⟩ | exact h
  | Gt => unfold cmpD at h ⊢; dsimp only at h ⊢; split at h <;> first | exact ⟨h, _, rfl⟩ | exact h
  | GtE => unfold cmpD at h ⊢; dsimp only at h ⊢; split at h <;> first | exact ⟨h, _, rfl⟩ | exact h
/-- not, by its operand's test -/
theorem dt_not (ha : PT C a (tB X W fun env => (fa env).bind truM)) : PT C (.UnaryOp .Not a pos) (tB X W fun env => ((fa env).bind fun x => (truM x).bind fun b => M.pure (.bl (!b))).bind truM) := by
  refine (pt_not ha).weak fun σ H Q ⟨R, env, sto, S, E, o⟩ => ?_
  refine ⟨R, env, sto, S, E, ?_⟩
  have e : (((fa env).bind fun x => (truM x).bind fun b => M.pure (.bl (!b))).bind truM) sto = ((((fa env).bind truM).bind fun b => M.pure (!b))) sto := by
    unfold M.bind truM
    cases fa env sto with
    | ok p =>
      obtain ⟨d, s⟩ := p
      dsimp only
      cases truth d with
      | none => rfl
      | some b => rfl
    | exc _ _ _ => rfl
    | stuck => rfl
  exact Out.bind (Out.conv e o)
theorem dx_not (hK : X.K = C.K) (ha : PE C a (tT X W fa)) : PE C (.UnaryOp .Not a pos) (tD X W fun env => (fa env).bind fun x => (truM x).bind fun b => M.pure (.bl (!b))) := by
  refine (pe_notT ha).weak fun σ H Q ⟨R, env, sto, S, E, o⟩ => ?_
  refine useT S E o fun v H1 R1 d s1 g1 S1 E1 r1 o1 => ?_
  obtain ⟨k, e, o2⟩ := o1.ofOptB
  exact ⟨k, hK ▸ tru_of S1 r1 e, o2.pure (.bl (!k)) H1 R1 g1 S1 (.bl _)⟩
theorem dx_neg (ha : PE C a (tT X W fa)) : PE C (.UnaryOp .USub a pos) (tD X W fun env => (fa env).bind fun x => match x with
    | .int i => M.pure (.int (-i))
    | _ => stuck) := by
  refine (pe_un un_neg ha).weak fun σ H Q ⟨R, env, sto, S, E, o⟩ => ?_
  refine useT S E o fun v H1 R1 d s1 g1 S1 E1 r1 o1 => ?_
  split at o1
  · rw [r1.int]; exact ⟨_, rfl, o1.pure (.int _) H1 R1 g1 S1 (.int _)⟩
  · exact o1.elim
theorem dx_inv (ha : PE C a (tT X W fa)) : PE C (.UnaryOp .Invert a pos) (tD X W fun env => (fa env).bind fun x => match x with
    | .int i => M.pure (.int (Builtin.bitNot i))
    | _ => stuck) := by
  refine (pe_un un_inv ha).weak fun σ H Q ⟨R, env, sto, S, E, o⟩ => ?_
  refine useT S E o fun v H1 R1 d s1 g1 S1 E1 r1 o1 => ?_
  split at o1
  · rw [r1.int]; exact ⟨_, rfl, o1.pure (.int _) H1 R1 g1 S1 (.int _)⟩
  · exact o1.elim
/-- from a first step on -/
theorem wE_on {R R1 : Rl} {H H1 : Hp} {σ : L2.St} (g : Grow R H R1 H1) : ∀ c fs s, wE X W R H σ c fs s → wE X W R1 H1 σ c fs s := fun _ _ _ w H' R' g' S' => w H' R' (g.trans g') S'
theorem dx_ite {tr : Bool} (hc : PT C c (tB X W fun env => (fc env).bind truM)) (ha : PE C a (tX X W tr fa)) (hb : PE C b (tX X W tr fb)) :
    PE C (.IfExp c a b pos) (tX X W tr fun env => (fc env).bind fun x => (truM x).bind fun k => if k then fa env else fb env) := by
  refine (pe_ifExp hc ha hb).weak fun σ H Q h => ?_
  have key : ∀ (P : Rl → Hp → V → D → Prop) R env sto, StOk X R H sto → EnvOk X R H σ env → Out (wE X W R H σ) (((fc env).bind fun x => (truM x).bind fun k => if k then fa env else fb env) sto) (fun d s' => ∀ v H' R', Grow R H R' H' → StOk X R' H' s' → P R' H' v d → Q v H') →
      (∀ b H1, (∃ R1 env s1, StOk X R1 H1 s1 ∧ EnvOk X R1 H1 σ env ∧ Out (wE X W R1 H1 σ) ((if b then fa env else fb env) s1) (fun d s' => ∀ v H' R', Grow R1 H1 R' H' → StOk X R' H' s' → P R' H' v d → Q v H')) → (if b = true then tX X W tr fa σ H1 Q else tX X W tr fb σ H1 Q)) →
      tB X W (fun env => (fc env).bind truM) σ H fun c H1 => if c = true then tX X W tr fa σ H1 Q else tX X W tr fb σ H1 Q := fun P R env sto S E o hk => by
    have e : ((fc env).bind fun x => (truM x).bind fun k => if k then fa env else fb env) sto = (((fc env).bind truM).bind fun k => if k then fa env else fb env) sto := by
      unfold M.bind
      cases fc env sto <;> rfl
    have o := Out.conv e o
    refine ⟨R, env, sto, S, E, (Out.bind o).imp (fun b s1 o1 H1 R1 g1 S1 => ?_) fun _ _ _ w => w⟩
    exact hk b H1 ⟨R1, env, s1, S1, E.grow g1, o1.imp (fun d s' q v H' R' g' S' r => q v H' R' (g1.trans g') S' r) (wE_on g1)⟩
  cases tr with
  | true =>
    obtain ⟨R, env, sto, S, E, o⟩ := h
    refine key (fun R' H' v d => RepT X R' H' v d) R env sto S E o fun b H1 ⟨R1, env, s1, S1, E1, o1⟩ => ?_
    cases b with
    | true => exact ⟨R1, env, s1, S1, E1, o1⟩
    | false => exact ⟨R1, env, s1, S1, E1, o1⟩
  | false =>
    obtain ⟨R, env, sto, S, E, o⟩ := h
    refine key (fun R' H' v d => Rep X R' v d) R env sto S E o fun b H1 ⟨R1, env, s1, S1, E1, o1⟩ => ?_
    cases b with
    | true => exact ⟨R1, env, s1, S1, E1, o1⟩
    | false => exact ⟨R1, env, s1, S1, E1, o1⟩
/-! and, or: in the permanent mode -/
theorem dx_and1 {op : BoolOp} (ha : PE C a (tD X W fa)) : PE C (.BoolOp op [a] pos) (tD X W fa) := pe_one ha
theorem dx_and {rest : List Expr} (hK : X.K = C.K) (ha : PE C a (tD X W fa)) (hb : PE C (.BoolOp .And (b :: rest) pos) (tD X W fb)) :
    PE C (.BoolOp .And (a :: b :: rest) pos) (tD X W fun env => (fa env).bind fun x => (truM x).bind fun k => if k then fb env else M.pure x) := by
  refine (pe_andT ha hb).weak fun σ H Q ⟨R, env, sto, S, E, o⟩ => ?_
  refine useD S E o fun v H1 R1 d s1 g1 S1 E1 r1 o1 => ?_
  obtain ⟨k, e, o2⟩ := o1.ofOptB
  refine ⟨k, hK ▸ tru_of S1 (.inl r1) e, ?_⟩
  cases k with
  | true => exact ⟨R1, env, s1, S1, E1, Out.imp o2 (fun d s' q v H' R' g' S' r => q v H' R' (g1.trans g') S' r) (wE_on g1)⟩
  | false => exact Out.pure (show Out _ (M.pure d s1) _ from o2) v H1 R1 g1 S1 r1
theorem dx_or {rest : List Expr} (hK : X.K = C.K) (ha : PE C a (tD X W fa)) (hb : PE C (.BoolOp .Or (b :: rest) pos) (tD X W fb)) :
    PE C (.BoolOp .Or (a :: b :: rest) pos) (tD X W fun env => (fa env).bind fun x => (truM x).bind fun k => if k then M.pure x else fb env) := by
  refine (pe_orT ha hb).weak fun σ H Q ⟨R, env, sto, S, E, o⟩ => ?_
  refine useD S E o fun v H1 R1 d s1 g1 S1 E1 r1 o1 => ?_
  obtain ⟨k, e, o2⟩ := o1.ofOptB
  refine ⟨k, hK ▸ tru_of S1 (.inl r1) e, ?_⟩
  cases k with
  | false => exact ⟨R1, env, s1, S1, E1, Out.imp o2 (fun d s' q v H' R' g' S' r => q v H' R' (g1.trans g') S' r) (wE_on g1)⟩
  | true => exact Out.pure (show Out _ (M.pure d s1) _ from o2) v H1 R1 g1 S1 r1
/-! and, or as tests -/
theorem dw_one {op : BoolOp} (ha : PT C a (tB X W fun env => (fa env).bind truM)) : PW C (.BoolOp op [a] pos) (tB X W fun env => (fa env).bind truM) := by
  cases op with
  | And => exact pw_and1 ha
  | Or => exact pw_or1 ha
theorem and_tru (m : M D) (m2 : M D) (s : Sto) : ((m.bind fun x => (truM x).bind fun k => if k then m2 else M.pure x).bind truM) s = (((m.bind truM).bind fun k => if k then m2.bind truM else M.pure false)) s := by
  unfold M.bind
  cases m s with
  | ok p =>
    obtain ⟨d, s1⟩ := p
    dsimp only
    unfold truM
    cases e : truth d with
    | none => rfl
    | some b =>
      cases b with
      | true => rfl
      | false => show (match (ofOpt (truth d) : M Bool) s1 with | _ => _) = _; simp [ofOpt, e, M.pure]
  | exc _ _ _ => rfl
  | stuck => rfl
theorem or_tru (m : M D) (m2 : M D) (s : Sto) : ((m.bind fun x => (truM x).bind fun k => if k then M.pure x else m2).bind truM) s = (((m.bind truM).bind fun k => if k then M.pure true else m2.bind truM)) s := by
  unfold M.bind
  cases m s with
  | ok p =>
    obtain ⟨d, s1⟩ := p
    dsimp only
    unfold truM
    cases e : truth d with
    | none => rfl
    | some b =>
      cases b with
      | false => rfl
      | true => simp [ofOpt, e, M.pure]
  | exc _ _ _ => rfl
  | stuck => rfl
theorem dw_and {rest : List Expr} (ha : PT C a (tB X W fun env => (fa env).bind truM)) (hb : PW C (.BoolOp .And (b :: rest) pos) (tB X W fun env => (fb env).bind truM)) :
    PW C (.BoolOp .And (a :: b :: rest) pos) (tB X W fun env => ((fa env).bind fun x => (truM x).bind fun k => if k then fb env else M.pure x).bind truM) := by
  have h := pw_and ha hb
  refine ⟨fun whole pins s σ H Q I q => h.run whole pins s σ H Q I ?_⟩
  obtain ⟨R, env, sto, S, E, o⟩ := q
  have o := Out.conv (and_tru _ _ _) o
  refine ⟨R, env, sto, S, E, (Out.bind o).imp (fun k s1 o1 H1 R1 g1 S1 => ?_) fun _ _ _ w => w⟩
  cases k with
  | true => exact ⟨R1, env, s1, S1, E.grow g1, Out.imp o1 (fun d s' q H' R' g' S' => q H' R' (g1.trans g') S') (wE_on g1)⟩
  | false => exact Out.pure (show Out _ (M.pure false s1) _ from o1) H1 R1 g1 S1
theorem dw_or {rest : List Expr} (ha : PT C a (tB X W fun env => (fa env).bind truM)) (hb : PW C (.BoolOp .Or (b :: rest) pos) (tB X W fun env => (fb env).bind truM)) :
    PW C (.BoolOp .Or (a :: b :: rest) pos) (tB X W fun env => ((fa env).bind fun x => (truM x).bind fun k => if k then M.pure x else fb env).bind truM) := by
  have h := pw_or ha hb
  refine ⟨fun whole pins s σ H Q I q => h.run whole pins s σ H Q I ?_⟩
  obtain ⟨R, env, sto, S, E, o⟩ := q
  have o := Out.conv (or_tru _ _ _) o
  refine ⟨R, env, sto, S, E, (Out.bind o).imp (fun k s1 o1 H1 R1 g1 S1 => ?_) fun _ _ _ w => w⟩
  cases k with
  | false => exact ⟨R1, env, s1, S1, E.grow g1, Out.imp o1 (fun d s' q H' R' g' S' => q H' R' (g1.trans g') S') (wE_on g1)⟩
  | true => exact Out.pure (show Out _ (M.pure true s1) _ from o1) H1 R1 g1 S1
end
end Bc

set_option linter.all false
set_option autoImplicit false
set_option maxRecDepth 100000
set_option maxHeartbeats 1000000
namespace Bc
open PySem PySem.Spec L2

/-- a walk yields the items, wherever P holds -/
structure JOk (X : Sx) (P : Rl → Hp → Prop) (J : It) (items : List D) : Prop where
  go : ∀ (R : Rl) (H : Hp) (s : Sto) (i : Nat) (d : D), P R H → StOk X R H s → items[i]? = some d →
    J.go i H ∧ ∀ x H', J.yld i H x H' → ∃ R', Grow R H R' H' ∧ StOk X R' H' s ∧ Rep X R' x d
  stop : ∀ (R : Rl) (H : Hp) (s : Sto) (i : Nat), P R H → StOk X R H s → items.length ≤ i → J.stop i H
/-- what a walk leans on: in a block all that was tracked, in a loop what is frozen -/
def Pw (R0 : Rl) (H0 : Hp) (tr : Bool) : Rl → Hp → Prop := fun R H => if tr then Grow R0 H0 R H else RLe R0 R
/-- a value that a walk walks: in a loop a permanent one -/
def RepM (X : Sx) (R : Rl) (H : Hp) (tr : Bool) (v : V) (d : D) : Prop := if tr then RepT X R H v d else Rep X R v d
theorem RepM.on {X : Sx} {R0 R : Rl} {H0 H : Hp} {tr : Bool} {v : V} {d : D} (p : Pw R0 H0 tr R H) (r : RepM X R0 H0 tr v d) : RepT X R H v d := by
  cases tr with
  | true => exact RepT.grow (show Grow R0 H0 R H from p) r
  | false => exact .inl (Rep.mono (show RLe R0 R from p) _ r)
def tI (X : Sx) (W : WD) (tr : Bool) (f : Env → M (List D)) : TI := fun σ H K => ∃ R env sto, StOk X R H sto ∧ EnvOk X R H σ env ∧
  Out (wE X W R H σ) (f env sto) fun items s' => ∀ J H' R', Grow R H R' H' → StOk X R' H' s' → JOk X (Pw R' H' tr) J items → K J H'
theorem PI.weak {C : Cx} {tg e : Expr} {t t' : TI} (h : PI C tg e t) (w : ∀ σ H Q, t' σ H Q → t σ H Q) : PI C tg e t' := ⟨fun pins s σ H Q I q => h.run pins s σ H Q I (w σ H Q q)⟩

section
variable {X : Sx} {W : WD} {C : Cx} {tg : Expr} {tr : Bool}
/-- a list, a tuple or a text, whichever it is -/
def iSeq (K : PySem.W.Frag) (tl : TE) : TI := fun σ H R => tl σ H fun x H1 => (∃ a, x = .ref a ∧ (((∃ xs, SqL K H1 a xs) ∧ R (Itl K a) H1) ∨ ((∃ xs, SqT K H1 a xs) ∧ R (Itt K a) H1))) ∨ ∃ z, x = .str z ∧ R (Its z) H1
theorem pi_seq {l : Expr} {tl : TE} (hl : PE C l tl) : PI C tg l (iSeq C.K tl) := by
  refine ⟨fun pins s σ H R I h => ?_⟩
  refine thn (hl.run pins s σ H _ I h) fun v s1 ⟨x, H1, I1, r1, q1⟩ => ?_
  rcases q1 with ⟨a, e, q1⟩ | ⟨z, e, q⟩
  · subst e
    cases r1
    rcases q1 with ⟨⟨xs, hq⟩, q⟩ | ⟨⟨xs, hq⟩, q⟩
    · obtain ⟨its, rv, p, hz⟩ := I1.list hq
      exact wpAny_pyIter_list p.isList (pi_one (tk := s1.toks) I1 _ (turn_list a _) ⟨_, Heap.get?_push_size _ rfl, rfl, rfl⟩ q)
    · obtain ⟨its, rv, p, hz⟩ := I1.tuple hq
      exact wpAny_pyIter_tuple (show s1.heap.IsTuple a its.toArray from p) (pi_one (tk := s1.toks) I1 _ (turn_tuple a _) ⟨_, Heap.get?_push_size _ rfl, rfl, rfl⟩ q)
  · subst e
    obtain ⟨t, rfl⟩ := r1
    cases ha : z.cps.all (· < 128)
    · exact wpAny_pyIter_wide ha (pi_one (tk := s1.toks) I1 _ (turn_str _ z t "str_iterator" (.inr rfl)) ⟨_, Heap.get?_push_size _ rfl, rfl, rfl⟩ q)
    · exact wpAny_pyIter_ascii ha (pi_one (tk := s1.toks) I1 _ (turn_str _ z t "str_ascii_iterator" (.inl rfl)) ⟨_, Heap.get?_push_size _ rfl, rfl, rfl⟩ q)
theorem jok_str {P : Rl → Hp → Prop} {z : Str} : JOk X P (Its z) (z.cps.toList.map fun c => .str ⟨#[c]⟩) where
  go := fun R H s i d p S e => by
    rw [List.getElem?_map] at e
    obtain ⟨c, hc, rfl⟩ := Option.map_eq_some_iff.mp e
    have hc2 : z.cps[i]? = some c := by rw [← Array.getElem?_toList]; exact hc
    refine ⟨(Array.getElem?_eq_some_iff.mp hc2).1, fun x H' y => ?_⟩
    obtain ⟨rfl, c', e', rfl⟩ := y
    rw [hc2] at e'
    cases e'
    exact ⟨R, Grow.refl _ _, S, .str _⟩
  stop := fun R H s i p S h => by
    rw [List.length_map] at h
    show z.cps.size ≤ i
    simpa using h
theorem jok_list {R0 : Rl} {H0 : Hp} {a : Addr} {d : D} {ds : List D} (hs : ∀ (R : Rl) (H : Hp) (s : Sto), Pw R0 H0 tr R H → StOk X R H s → ∃ vs, SqL X.K H a vs ∧ Reps X R vs ds) : JOk X (Pw R0 H0 tr) (Itl X.K a) ds where
  go := fun R H s i d p S e => by
    obtain ⟨vs, h, r⟩ := hs R H s p S
    obtain ⟨v, e1, r1⟩ := r.get e
    refine ⟨⟨vs, v, h, e1⟩, fun x H' y => ?_⟩
    obtain ⟨rfl, y⟩ := y
    have := (y vs h).symm.trans e1
    cases this
    exact ⟨R, Grow.refl _ _, S, r1⟩
  stop := fun R H s i p S e => by
    obtain ⟨vs, h, r⟩ := hs R H s p S
    exact ⟨vs, h, by rw [r.length]; exact e⟩
theorem jok_tup {R0 : Rl} {H0 : Hp} {a : Addr} {ds : List D} (hs : ∀ (R : Rl) (H : Hp) (s : Sto), Pw R0 H0 tr R H → StOk X R H s → ∃ vs, SqT X.K H a vs ∧ Reps X R vs ds) : JOk X (Pw R0 H0 tr) (Itt X.K a) ds where
  go := fun R H s i d p S e => by
    obtain ⟨vs, h, r⟩ := hs R H s p S
    obtain ⟨v, e1, r1⟩ := r.get e
    refine ⟨⟨vs, v, h, e1⟩, fun x H' y => ?_⟩
    obtain ⟨rfl, y⟩ := y
    have := (y vs h).symm.trans e1
    cases this
    exact ⟨R, Grow.refl _ _, S, r1⟩
  stop := fun R H s i p S e => by
    obtain ⟨vs, h, r⟩ := hs R H s p S
    exact ⟨vs, h, by rw [r.length]; exact e⟩
/-- the walked value is a list at a | a tuple at a -/
theorem seq_at {R0 : Rl} {H0 : Hp} {s0 : Sto} {v : V} {d : D} {ds : List D} (S0 : StOk X R0 H0 s0) (r : RepM X R0 H0 tr v d) (e : asSeq d = some ds) :
    ∃ a, v = .ref a ∧ ((∀ (R : Rl) (H : Hp) (s : Sto), Pw R0 H0 tr R H → StOk X R H s → ∃ vs, SqL X.K H a vs ∧ Reps X R vs ds) ∨ (∀ (R : Rl) (H : Hp) (s : Sto), Pw R0 H0 tr R H → StOk X R H s → ∃ vs, SqT X.K H a vs ∧ Reps X R vs ds)) := by
  have p0 : Pw R0 H0 tr R0 H0 := by cases tr <;> first | exact RLe.refl _ | exact Grow.refl _ _
  have r0 := r.on p0
  cases d <;> simp only [asSeq] at e <;> cases e
  · obtain ⟨a, vs, rfl, h, q⟩ := r0.tup S0
    refine ⟨a, rfl, .inr fun R H s p S => ?_⟩
    obtain ⟨b, ws, e1, h1, q1⟩ := (r.on p).tup S
    cases e1
    exact ⟨ws, h1, q1⟩
  · obtain ⟨a, vs, rfl, h, q⟩ := r0.lst S0
    refine ⟨a, rfl, .inl fun R H s p S => ?_⟩
    obtain ⟨b, ws, e1, h1, q1⟩ := (r.on p).lst S
    cases e1
    exact ⟨ws, .of h1, q1⟩
  · obtain ⟨a, vs, rfl, h, q⟩ := r0.ro S0
    refine ⟨a, rfl, .inl fun R H s p S => ?_⟩
    obtain ⟨b, ws, e1, h1, q1⟩ := (r.on p).ro S
    cases e1
    exact ⟨ws, h1, q1⟩
theorem pw0 {R0 : Rl} {H0 : Hp} : Pw R0 H0 tr R0 H0 := by cases tr <;> first | exact RLe.refl _ | exact Grow.refl _ _
theorem useXs {β : Type} {R : Rl} {H : Hp} {sto : Sto} {σ : L2.St} {env : Env} {fa : Env → M (List D)} {g : List D → M β} {k : β → Sto → Prop} {Kx : List V → Hp → Prop} (S : StOk X R H sto) (E : EnvOk X R H σ env)
    (h : Out (wE X W R H σ) (((fa env).bind g) sto) k)
    (hk : ∀ v H1 R1 d s1, Grow R H R1 H1 → StOk X R1 H1 s1 → EnvOk X R1 H1 σ env → (if tr then RepTs X R1 H1 v d else Reps X R1 v d) → Out (wE X W R H σ) (g d s1) k → Kx v H1) : tXs X W tr fa σ H Kx := by
  cases tr with
  | true => exact useTs S E h hk
  | false => exact useDs S E h hk
theorem ms_one {R : Rl} {H : Hp} {vs : List V} {d : D} (h : if tr then RepTs X R H vs [d] else Reps X R vs [d]) : ∃ v, vs = [v] ∧ RepM X R H tr v d := by
  cases tr with
  | true => exact RepTs.one h
  | false =>
    cases (show Reps X R vs [d] from h) with
    | cons a b => cases b; exact ⟨_, rfl, a⟩
theorem ms_two {R : Rl} {H : Hp} {vs : List V} {d e : D} (h : if tr then RepTs X R H vs [d, e] else Reps X R vs [d, e]) : ∃ v w, vs = [v, w] ∧ RepM X R H tr v d ∧ RepM X R H tr w e := by
  cases tr with
  | true => exact RepTs.two h
  | false =>
    cases (show Reps X R vs [d, e] from h) with
    | cons a b => cases b with | cons c d => cases d; exact ⟨_, _, rfl, a, c⟩
/-- for .. in e -/
theorem di_seq {l : Expr} {f : Env → M D} (hK : X.K = C.K) (hl : PE C l (tX X W tr f)) : PI C tg l (tI X W tr fun env => ((f env).bind fun x => M.pure [x]).bind fun ds => itSeq ds) := by
  refine PI.weak (pi_seq hl) fun σ H K ⟨R, env, sto, S, E, o⟩ => ?_
  have o : Out (wE X W R H σ) (((f env).bind fun x => itSeq [x]) sto) _ := Out.conv (bind_one _ _ _) o
  refine useX S E o fun v H1 R1 d s1 g1 S1 E1 r1 o1 => ?_
  obtain ⟨items, e2, q⟩ := Out.ofOpt (show Out _ (ofOpt (asWalk d) s1) _ from o1)
  by_cases hz : ∃ z, d = .str z
  · obtain ⟨z, rfl⟩ := hz
    cases e2
    have ev : v = .str z := by
      cases tr with
      | true => exact RepT.str r1
      | false => exact RepT.str (H := H1) (.inl r1)
    exact .inr ⟨z, ev, q _ H1 R1 g1 S1 jok_str⟩
  have e2 : asSeq d = some items := by
    cases d <;> first | exact e2 | exact absurd ⟨_, rfl⟩ hz
  obtain ⟨a, rfl, h⟩ := seq_at S1 (tr := tr) r1 e2
  refine .inl ⟨a, rfl, ?_⟩
  rw [← hK]
  rcases h with h | h
  · obtain ⟨vs, h1, _⟩ := h R1 H1 s1 pw0 S1
    exact .inl ⟨⟨vs, h1⟩, q _ H1 R1 g1 S1 (jok_list (d := d) h)⟩
  · obtain ⟨vs, h1, _⟩ := h R1 H1 s1 pw0 S1
    exact .inr ⟨⟨vs, h1⟩, q _ H1 R1 g1 S1 (jok_tup h)⟩
theorem range_get {n i : Nat} {f : Nat → D} {d : D} (e : ((List.range n).map f)[i]? = some d) : i < n ∧ d = f i := by
  rw [List.getElem?_map] at e
  by_cases h : i < n
  · rw [List.getElem?_range h] at e
    exact ⟨h, (Option.some.inj e).symm⟩
  · rw [List.getElem?_eq_none (by simpa using h)] at e; cases e
theorem jok_range {P : Rl → Hp → Prop} {lo : Int} {n : Nat} : JOk X P (Itr lo n) ((List.range n).map fun (i : Nat) => D.int (lo + i)) where
  go := fun R H s i d p S e => by
    obtain ⟨h, rfl⟩ := range_get e
    refine ⟨h, fun x H' y => ?_⟩
    obtain ⟨rfl, rfl⟩ := y
    exact ⟨R, Grow.refl _ _, S, .int _⟩
  stop := fun R H s i p S e => by simp only [List.length_map, List.length_range, List.length_reverse] at e; exact e
theorem di_range1 {a : Expr} {fs : Env → M (List D)} {p pos : Pos} (hg : Gl C "range") (hm : C.mg "range" = none) (ha : PA C [a] (tXs X W tr fs)) (hs : starEach [a] C.env = [(false, eval a C.env)]) :
    PI C tg (.Call (.Name "range" p) [a] [] pos) (tI X W tr fun env => (fs env).bind fun ds => itR1 ds) := by
  refine PI.weak (pi_range1 hg hm ha hs) fun σ H K ⟨R, env, sto, S, E, o⟩ => ?_
  refine useXs S E o fun vs H1 R1 ds s1 g1 S1 E1 r1 o1 => ?_
  unfold itR1 at o1
  split at o1 <;> first | exact o1.elim | skip
  case _ j =>
    obtain ⟨hb, o2⟩ := o1.needB
    have hb := of_decide_eq_true hb
    obtain ⟨v, rfl, rv⟩ := ms_one r1
    have ev := (RepM.on (tr := tr) pw0 rv).int
    subst ev
    refine ⟨j, rfl, hb.1, hb.2, o2.pure _ H1 R1 g1 S1 ?_⟩
    have := jok_range (X := X) (P := Pw R1 H1 tr) (lo := 0) (n := j.toNat)
    simpa using this
theorem di_range2 {a b : Expr} {fs : Env → M (List D)} {p pos : Pos} (hg : Gl C "range") (hm : C.mg "range" = none) (ha : PA C [a, b] (tXs X W tr fs)) (hs : starEach [a, b] C.env = [(false, eval a C.env), (false, eval b C.env)]) (hs2 : starEach [b] C.env = [(false, eval b C.env)]) :
    PI C tg (.Call (.Name "range" p) [a, b] [] pos) (tI X W tr fun env => (fs env).bind fun ds => itR2 ds) := by
  refine PI.weak (pi_range2 hg hm ha hs hs2) fun σ H K ⟨R, env, sto, S, E, o⟩ => ?_
  refine useXs S E o fun vs H1 R1 ds s1 g1 S1 E1 r1 o1 => ?_
  unfold itR2 at o1
  split at o1 <;> first | exact o1.elim | skip
  case _ i j =>
    obtain ⟨hb, o2⟩ := o1.needB
    have hb := of_decide_eq_true hb
    obtain ⟨v, w, rfl, rv, rw'⟩ := ms_two r1
    have ev := (RepM.on (tr := tr) pw0 rv).int
    have ew := (RepM.on (tr := tr) pw0 rw').int
    subst ev ew
    exact ⟨i, j, rfl, hb, o2.pure _ H1 R1 g1 S1 jok_range⟩
/-- a fresh tuple is yielded -/
theorem jok_rangeC {P : Rl → Hp → Prop} {lo c : Int} {n : Nat} : JOk X P (Itc lo c n) ((List.range n).map fun (i : Nat) => D.int (lo + i * c)) where
  go := fun R H s i d p S e => by
    obtain ⟨h, rfl⟩ := range_get e
    refine ⟨h, fun x H' y => ?_⟩
    obtain ⟨rfl, rfl⟩ := y
    exact ⟨R, Grow.refl _ _, S, .int _⟩
  stop := fun R H s i p S h => by
    rw [List.length_map, List.length_range] at h
    exact h
theorem ms_three {R : Rl} {H : Hp} {vs : List V} {d e f : D} (h : if tr then RepTs X R H vs [d, e, f] else Reps X R vs [d, e, f]) : ∃ v w u, vs = [v, w, u] ∧ RepM X R H tr v d ∧ RepM X R H tr w e ∧ RepM X R H tr u f := by
  cases tr with
  | true => cases h with | cons a b => cases b with | cons c d => cases d with | cons e f => cases f; exact ⟨_, _, _, rfl, a, c, e⟩
  | false => cases h with | cons a b => cases b with | cons c d => cases d with | cons e f => cases f; exact ⟨_, _, _, rfl, a, c, e⟩
theorem RepM.int {R : Rl} {H : Hp} {v : V} {i : Int} (r : RepM X R H tr v (.int i)) : v = .int i := by
  cases tr with
  | true => exact RepT.int r
  | false => exact RepT.int (H := H) (.inl r)
theorem di_range3 {a b c : Expr} {fs : Env → M (List D)} {p pos : Pos} (hg : Gl C "range") (hm : C.mg "range" = none) (ha : PA C [a, b, c] (tXs X W tr fs)) (hs : starEach [a, b, c] C.env = (false, eval a C.env) :: starEach [b, c] C.env) (hpl : (backTo pos (starEach [b, c] C.env)).any (·.1) = false) :
    PI C tg (.Call (.Name "range" p) [a, b, c] [] pos) (tI X W tr fun env => (fs env).bind fun ds => itR3 ds) := by
  refine PI.weak (pi_range3 hg hm ha hs hpl) fun σ H K ⟨R, env, sto, S, E, o⟩ => ?_
  refine useXs S E o fun vs H1 R1 ds s1 g1 S1 E1 r1 o1 => ?_
  unfold itR3 at o1
  split at o1 <;> first | exact o1.elim | skip
  rename_i i j c'
  obtain ⟨hb, o2⟩ := Out.needB o1
  obtain ⟨e1, e2, e3, e4, e5⟩ := of_decide_eq_true hb
  obtain ⟨v, w, u, rfl, r2, r3, r4⟩ := ms_three r1
  rw [r2.int, r3.int, r4.int]
  subst e1
  exact ⟨i, j, -1, (i - j).toNat, rfl, .neg e2 e3 e4 e5, Out.pure o2 _ H1 R1 g1 S1 jok_rangeC⟩
theorem pair_new {R : Rl} {H : Hp} {s : Sto} {T : Addr} {x y : V} {d e : D} (S : StOk X R H s) (hT : H T = none) (rx : Rep X R x d) (ry : Rep X R y e) :
    ∃ R', Grow R H R' (upd H T (.tup [x, y])) ∧ StOk X R' (upd H T (.tup [x, y])) s ∧ Rep X R' (.ref T) (.tup [d, e]) := by
  have le := put_le (o := HO.tup [x, y]) (fz_none S hT)
  exact ⟨R.put T (.tup [x, y]), put_grow S hT, put_st S hT, .tup upd_same (.cons (rx.mono le) (.cons (ry.mono le) .nil))⟩
theorem zipIdx_get {ds : List D} {i : Nat} {d : D} (e : (ds.zipIdx.map fun p => D.tup [.int p.2, p.1])[i]? = some d) : ∃ x, ds[i]? = some x ∧ d = .tup [.int (i : Nat), x] := by
  rw [List.getElem?_map, List.getElem?_zipIdx] at e
  cases q : ds[i]? with
  | none => rw [q] at e; cases e
  | some x =>
    rw [q] at e
    refine ⟨x, rfl, ?_⟩
    have := (Option.some.inj e).symm
    simpa using this
theorem jok_enum {R0 : Rl} {H0 : Hp} {a : Addr} {ds : List D} (hs : ∀ (R : Rl) (H : Hp) (s : Sto), Pw R0 H0 tr R H → StOk X R H s → ∃ vs, SqL X.K H a vs ∧ Reps X R vs ds) :
    JOk X (Pw R0 H0 tr) (Ite X.K a) (ds.zipIdx.map fun p => .tup [.int p.2, p.1]) where
  go := fun R H s i d p S e => by
    obtain ⟨vs, h, r⟩ := hs R H s p S
    obtain ⟨x, e1, rfl⟩ := zipIdx_get e
    obtain ⟨v, e2, r2⟩ := r.get e1
    refine ⟨⟨vs, v, h, e2⟩, fun y H' q => ?_⟩
    obtain ⟨T, x', rfl, hT, rfl, q⟩ := q
    have := (q vs h).symm.trans e2
    cases this
    exact pair_new S hT (.int _) r2
  stop := fun R H s i p S e => by
    obtain ⟨vs, h, r⟩ := hs R H s p S
    exact ⟨vs, h, by rw [r.length]; simpa using e⟩
theorem zip_get {xs ys : List D} {i : Nat} {d : D} (e : ((xs.zip ys).map fun p => D.tup [p.1, p.2])[i]? = some d) : ∃ x y, xs[i]? = some x ∧ ys[i]? = some y ∧ d = .tup [x, y] := by
  rw [List.getElem?_map] at e
  cases q : (xs.zip ys)[i]? with
  | none => rw [q] at e; cases e
  | some p =>
    rw [q] at e
    obtain ⟨x, y⟩ := p
    obtain ⟨h1, h2⟩ := List.getElem?_zip_eq_some.mp q
    exact ⟨x, y, h1, h2, (Option.some.inj e).symm⟩
theorem jok_zip {R0 : Rl} {H0 : Hp} {a b : Addr} {xs ys : List D} (hs : ∀ (R : Rl) (H : Hp) (s : Sto), Pw R0 H0 tr R H → StOk X R H s → ∃ vs, SqL X.K H a vs ∧ Reps X R vs xs)
    (ht : ∀ (R : Rl) (H : Hp) (s : Sto), Pw R0 H0 tr R H → StOk X R H s → ∃ vs, SqL X.K H b vs ∧ Reps X R vs ys) :
    JOk X (Pw R0 H0 tr) (Itz X.K a b) ((xs.zip ys).map fun p => .tup [p.1, p.2]) where
  go := fun R H s i d p S e => by
    obtain ⟨vs, h, r⟩ := hs R H s p S
    obtain ⟨ws, h', r'⟩ := ht R H s p S
    obtain ⟨x, y, e1, e2, rfl⟩ := zip_get e
    obtain ⟨v, e3, r3⟩ := r.get e1
    obtain ⟨w, e4, r4⟩ := r'.get e2
    refine ⟨⟨vs, ws, v, w, h, h', e3, e4⟩, fun z H' q => ?_⟩
    obtain ⟨T, x', y', rfl, hT, rfl, q1, q2⟩ := q
    have z1 := (q1 vs h).symm.trans e3
    have z2 := (q2 ws h').symm.trans e4
    cases z1; cases z2
    exact pair_new S hT r3 r4
  stop := fun R H s i p S e => by
    obtain ⟨vs, h, r⟩ := hs R H s p S
    obtain ⟨ws, h', r'⟩ := ht R H s p S
    refine ⟨vs, ws, h, h', ?_⟩
    rw [r.length, r'.length]
    simp only [List.length_map, List.length_zip] at e
    omega
theorem jok_zipT {R0 : Rl} {H0 : Hp} {a b : Addr} {xs ys : List D} (hs : ∀ (R : Rl) (H : Hp) (s : Sto), Pw R0 H0 tr R H → StOk X R H s → ∃ vs, SqT X.K H a vs ∧ Reps X R vs xs)
    (ht : ∀ (R : Rl) (H : Hp) (s : Sto), Pw R0 H0 tr R H → StOk X R H s → ∃ vs, SqT X.K H b vs ∧ Reps X R vs ys) :
    JOk X (Pw R0 H0 tr) (RZ.ItzT X.K a b) ((xs.zip ys).map fun p => .tup [p.1, p.2]) where
  go := fun R H s i d p S e => by
    obtain ⟨vs, h, r⟩ := hs R H s p S
    obtain ⟨ws, h', r'⟩ := ht R H s p S
    obtain ⟨x, y, e1, e2, rfl⟩ := zip_get e
    obtain ⟨v, e3, r3⟩ := r.get e1
    obtain ⟨w, e4, r4⟩ := r'.get e2
    refine ⟨⟨vs, ws, v, w, h, h', e3, e4⟩, fun z H' q => ?_⟩
    obtain ⟨T, x', y', rfl, hT, rfl, q1, q2⟩ := q
    have z1 := (q1 vs h).symm.trans e3
    have z2 := (q2 ws h').symm.trans e4
    cases z1; cases z2
    exact pair_new S hT r3 r4
  stop := fun R H s i p S e => by
    obtain ⟨vs, h, r⟩ := hs R H s p S
    obtain ⟨ws, h', r'⟩ := ht R H s p S
    refine ⟨vs, ws, h, h', ?_⟩
    rw [r.length, r'.length]
    simp only [List.length_map, List.length_zip] at e
    omega
theorem rev_get {ds : List D} {i : Nat} {d : D} (e : ds.reverse[i]? = some d) : i < ds.length ∧ ds[ds.length - 1 - i]? = some d := by
  have h : i < ds.length := by simpa using (List.getElem?_eq_some_iff.mp e).1
  rw [List.getElem?_reverse h] at e
  exact ⟨h, e⟩
theorem jok_rev {R0 : Rl} {H0 : Hp} {a : Addr} {ds : List D} (hs : ∀ (R : Rl) (H : Hp) (s : Sto), Pw R0 H0 tr R H → StOk X R H s → ∃ vs, SqL X.K H a vs ∧ Reps X R vs ds) :
    JOk X (Pw R0 H0 tr) (Itv X.K a ds.length) ds.reverse where
  go := fun R H s i d p S e => by
    obtain ⟨vs, h, r⟩ := hs R H s p S
    obtain ⟨hl, e1⟩ := rev_get e
    obtain ⟨v, e2, r2⟩ := r.get e1
    refine ⟨⟨hl, vs, v, h, e2⟩, fun y H' q => ?_⟩
    obtain ⟨rfl, q⟩ := q
    have := (q vs h).symm.trans e2
    cases this
    exact ⟨R, Grow.refl _ _, S, r2⟩
  stop := fun R H s i p S e => by simp only [List.length_map, List.length_range, List.length_reverse] at e; exact e
theorem jok_revT {R0 : Rl} {H0 : Hp} {a : Addr} {ds : List D} (hs : ∀ (R : Rl) (H : Hp) (s : Sto), Pw R0 H0 tr R H → StOk X R H s → ∃ vs, SqT X.K H a vs ∧ Reps X R vs ds) :
    JOk X (Pw R0 H0 tr) (RT.ItvT X.K a ds.length) ds.reverse where
  go := fun R H s i d p S e => by
    obtain ⟨vs, h, r⟩ := hs R H s p S
    obtain ⟨hl, e1⟩ := rev_get e
    obtain ⟨v, e2, r2⟩ := r.get e1
    refine ⟨⟨hl, vs, v, h, e2⟩, fun y H' q => ?_⟩
    obtain ⟨rfl, q⟩ := q
    have := (q vs h).symm.trans e2
    cases this
    exact ⟨R, Grow.refl _ _, S, r2⟩
  stop := fun R H s i p S e => by simp only [List.length_map, List.length_range, List.length_reverse] at e; exact e
theorem di_enum {e : Expr} {fs : Env → M (List D)} {p pos tpos : Pos} {elts : List Expr} {kk : Nat} (hK : X.K = C.K) (hg : Gl C "enumerate") (hm : C.mg "enumerate" = none) (ha : PA C [e] (tXs X W tr fs)) (hs : starEach [e] C.env = [(false, eval e C.env)]) :
    PI C (.Tuple elts kk tpos) (.Call (.Name "enumerate" p) [e] [] pos) (tI X W tr fun env => (fs env).bind fun ds => itEnum ds) := by
  refine PI.weak (pi_enum hg hm ha hs) fun σ H K ⟨R, env, sto, S, E, o⟩ => ?_
  refine useXs S E o fun vs H1 R1 ds s1 g1 S1 E1 r1 o1 => ?_
  unfold itEnum at o1
  split at o1 <;> first | exact o1.elim | skip
  case _ b xs =>
    obtain ⟨v, rfl, rv⟩ := ms_one r1
    obtain ⟨a, rfl, h⟩ := seq_at (tr := tr) S1 rv (ds := xs) rfl
    have hl : ∀ (R : Rl) (H : Hp) (s : Sto), Pw R1 H1 tr R H → StOk X R H s → ∃ vs, SqL X.K H a vs ∧ Reps X R vs xs := fun R H s p S => by
      obtain ⟨b, ws, e1, h1, q1⟩ := (RepM.on p rv).lst S
      cases e1
      exact ⟨ws, .of h1, q1⟩
    obtain ⟨vs, h1, _⟩ := hl R1 H1 s1 pw0 S1
    refine ⟨a, vs, rfl, hK ▸ h1, ?_⟩
    rw [← hK]
    exact o1.pure _ H1 R1 g1 S1 (jok_enum hl)
theorem di_zip {e e2 : Expr} {fs : Env → M (List D)} {p pos tpos : Pos} {elts : List Expr} {kk : Nat} (hK : X.K = C.K) (hg : Gl C "zip") (hm : C.mg "zip" = none) (ha : PA C [e, e2] (tXs X W tr fs))
    (hs : starEach [e, e2] C.env = (false, eval e C.env) :: starEach [e2] C.env) (hpl : (backTo pos (starEach [e2] C.env)).any (·.1) = false) :
    PI C (.Tuple elts kk tpos) (.Call (.Name "zip" p) [e, e2] [] pos) (tI X W tr fun env => (fs env).bind fun ds => itZip ds) := by
  refine PI.weak (RZ.pi_zipA hg hm ha hs hpl) fun σ H K ⟨R, env, sto, S, E, o⟩ => ?_
  refine useXs S E o fun vs H1 R1 ds s1 g1 S1 E1 r1 o1 => ?_
  unfold itZip at o1
  split at o1 <;> first | exact o1.elim | skip
  case _ b1 xs b2 ys =>
    obtain ⟨v, w, rfl, rv, rw'⟩ := ms_two r1
    obtain ⟨a, rfl, _⟩ := seq_at (tr := tr) S1 rv (ds := xs) rfl
    obtain ⟨b, rfl, _⟩ := seq_at (tr := tr) S1 rw' (ds := ys) rfl
    have hl : ∀ (R : Rl) (H : Hp) (s : Sto), Pw R1 H1 tr R H → StOk X R H s → ∃ vs, SqL X.K H a vs ∧ Reps X R vs xs := fun R H s p S => by
      obtain ⟨b, ws, e1, h1, q1⟩ := (RepM.on p rv).lst S
      cases e1
      exact ⟨ws, .of h1, q1⟩
    have hl2 : ∀ (R : Rl) (H : Hp) (s : Sto), Pw R1 H1 tr R H → StOk X R H s → ∃ vs, SqL X.K H b vs ∧ Reps X R vs ys := fun R H s p S => by
      obtain ⟨b, ws, e1, h1, q1⟩ := (RepM.on p rw').lst S
      cases e1
      exact ⟨ws, .of h1, q1⟩
    obtain ⟨vs, h1, _⟩ := hl R1 H1 s1 pw0 S1
    obtain ⟨ws, h2, _⟩ := hl2 R1 H1 s1 pw0 S1
    refine ⟨a, b, vs, ws, rfl, .inl ⟨hK ▸ h1, hK ▸ h2, ?_⟩⟩
    rw [← hK]
    exact o1.pure _ H1 R1 g1 S1 (jok_zip hl hl2)
  case _ xs ys =>
    obtain ⟨v, w, rfl, rv, rw'⟩ := ms_two r1
    obtain ⟨a, rfl, _⟩ := seq_at (tr := tr) S1 rv (ds := xs) rfl
    obtain ⟨b, rfl, _⟩ := seq_at (tr := tr) S1 rw' (ds := ys) rfl
    have hl : ∀ (R : Rl) (H : Hp) (s : Sto), Pw R1 H1 tr R H → StOk X R H s → ∃ vs, SqT X.K H a vs ∧ Reps X R vs xs := fun R H s p S => by
      obtain ⟨b, ws, e1, h1, q1⟩ := (RepM.on p rv).tup S
      cases e1
      exact ⟨ws, h1, q1⟩
    have hl2 : ∀ (R : Rl) (H : Hp) (s : Sto), Pw R1 H1 tr R H → StOk X R H s → ∃ vs, SqT X.K H b vs ∧ Reps X R vs ys := fun R H s p S => by
      obtain ⟨b, ws, e1, h1, q1⟩ := (RepM.on p rw').tup S
      cases e1
      exact ⟨ws, h1, q1⟩
    obtain ⟨vs, h1, _⟩ := hl R1 H1 s1 pw0 S1
    obtain ⟨ws, h2, _⟩ := hl2 R1 H1 s1 pw0 S1
    refine ⟨a, b, vs, ws, rfl, .inr ⟨hK ▸ h1, hK ▸ h2, ?_⟩⟩
    rw [← hK]
    exact o1.pure _ H1 R1 g1 S1 (jok_zipT hl hl2)
theorem di_rev {e : Expr} {f : Env → M D} {p pos : Pos} (hK : X.K = C.K) (hg : Gl C "reversed") (hm : C.mg "reversed" = none) (he : PE C e (tX X W tr f)) (hs : starEach [e] C.env = (false, eval e C.env) :: starEach [] C.env) :
    PI C tg (.Call (.Name "reversed" p) [e] [] pos) (tI X W tr fun env => ((f env).bind fun x => M.pure [x]).bind fun ds => itRev ds) := by
  refine PI.weak (RT.pi_revA hg hm he hs) fun σ H K ⟨R, env, sto, S, E, o⟩ => ?_
  have o : Out (wE X W R H σ) (((f env).bind fun x => itRev [x]) sto) _ := Out.conv (bind_one _ _ _) o
  refine useX S E o fun v H1 R1 d s1 g1 S1 E1 r1 o1 => ?_
  obtain ⟨its, e1, q⟩ := Out.ofOpt (show Out _ (ofOpt ((asSeq d).map List.reverse) s1) _ from o1)
  obtain ⟨items, e2, rfl⟩ := Option.map_eq_some_iff.mp e1
  obtain ⟨a, rfl, h⟩ := seq_at S1 (tr := tr) r1 e2
  rcases h with h | h
  · obtain ⟨vs, h1, rl⟩ := h R1 H1 s1 pw0 S1
    refine ⟨a, vs, rfl, .inl ⟨hK ▸ h1, ?_⟩⟩
    rw [← hK, rl.length]
    exact q _ H1 R1 g1 S1 (jok_rev h)
  · obtain ⟨vs, h1, rl⟩ := h R1 H1 s1 pw0 S1
    refine ⟨a, vs, rfl, .inr ⟨hK ▸ h1, ?_⟩⟩
    rw [← hK, rl.length]
    exact q _ H1 R1 g1 S1 (jok_revT h)
end
end Bc

set_option linter.all false
set_option autoImplicit false
set_option maxRecDepth 100000
set_option maxHeartbeats 1000000
namespace Bc
open PySem PySem.Spec L2

/-! ### targets -/
/-- a target's reading: it stores at the slots ns at most -/
def tG (X : Sx) (ns : List Nat) (f : D → Env → M Env) : TG := fun v σ H Q => ∃ R env sto d, StOk X R H sto ∧ EnvOk X R H σ env ∧ Rep X R v d ∧
  Out noW (f d env sto) fun env' s' => ∀ σ' H' R', Grow R H R' H' → StOk X R' H' s' → EnvOk X R' H' σ' env' → (∀ i, i ∉ ns → σ'[i]? = σ[i]?) → (∀ i, i ∉ ns → env'[i]? = env[i]?) → Q σ' H'
def tGs (X : Sx) (ns : List Nat) (f : List D → Env → M Env) : TGs := fun v σ H Q => ∃ R env sto d, StOk X R H sto ∧ EnvOk X R H σ env ∧ Reps X R v d ∧
  Out noW (f d env sto) fun env' s' => ∀ σ' H' R', Grow R H R' H' → StOk X R' H' s' → EnvOk X R' H' σ' env' → (∀ i, i ∉ ns → σ'[i]? = σ[i]?) → (∀ i, i ∉ ns → env'[i]? = env[i]?) → Q σ' H'
section
variable {X : Sx} {W : WD} {C : Cx} {pos : Pos}
theorem PGs.weak {e : List Expr} {t t' : TGs} (h : PGs C e t) (w : ∀ v σ H Q, t' v σ H Q → t v σ H Q) : PGs C e t' := ⟨fun pins s σ H v u Q I r q => h.run pins s σ H v u Q I r (w v σ H Q q)⟩
theorem EnvOk.setVal {R : Rl} {H : Hp} {σ : L2.St} {env : Env} {i : Nat} {v : V} {d : D} (E : EnvOk X R H σ env) (hi : i < env.length) (r : Rep X R v d) : EnvOk X R H (σ.set i (some v)) (env.set i (.val d)) := by
  refine ⟨by rw [List.length_set, List.length_set]; exact E.len, fun j s e => ?_, fun j k sj sk a e1 e2 o1 o2 q1 q2 => ?_⟩
  · by_cases h : i = j
    · subst h
      rw [List.getElem?_set_self hi] at e
      cases e
      rw [List.getElem?_set_self (by rw [E.len]; exact hi)]
      exact ⟨v, rfl, r⟩
    · rw [List.getElem?_set_ne h] at e ⊢
      exact E.at_ j s e
  · have hj : i ≠ j := fun h => by
      subst h
      rw [List.getElem?_set_self hi] at e1
      cases e1; cases o1
    have hk : i ≠ k := fun h => by
      subst h
      rw [List.getElem?_set_self hi] at e2
      cases e2; cases o2
    rw [List.getElem?_set_ne hj] at e1 q1
    rw [List.getElem?_set_ne hk] at e2 q2
    exact E.sep j k sj sk a e1 e2 o1 o2 q1 q2
theorem dg_nm {i : Nat} {x : Str} (cl : Cl) (hN : C.N.Nodup) (hi : C.N[i]? = some x) (hx : Loc C.env.scope x) (hf : C.fn x = true ∨ C.env.scope.names.lookup x = some .local) : PG C (.Name x pos) (tG X [i] (asgT cl (.nm i))) := by
  refine L2.PG.weak (pg_name hN hi hx hf) fun v σ H Q ⟨R, env, sto, d, S, E, r, o⟩ => ?_
  unfold asgT at o
  split at o
  · rename_i h
    refine o.pure _ H R (Grow.refl _ _) S (E.setVal h r) (fun j hj => ?_) (fun j hj => ?_)
    · rw [List.getElem?_set_ne (fun e => hj (by simp [e]))]
    · rw [List.getElem?_set_ne (fun e => hj (by simp [e]))]
  · exact o.elim
theorem dg_nil (cl : Cl) : PGs C [] (tGs X [] (asgTs cl .nil)) := by
  refine PGs.weak pgs_nil fun v σ H Q ⟨R, env, sto, d, S, E, r, o⟩ => ?_
  unfold asgTs at o
  split at o
  · cases r
    exact ⟨rfl, o.pure _ H R (Grow.refl _ _) S E (fun _ _ => rfl) fun _ _ => rfl⟩
  · exact o.elim
theorem dg_cons {e : Expr} {es : List Expr} {cl : Cl} {t : T} {ts : Ts} {ns ms : List Nat} (h1 : PG C e (tG X ns (asgT cl t))) (h2 : PGs C es (tGs X ms (asgTs cl ts)))
    (hs : (assignEach (e :: es) C.env).map (·.2) = assign e C.env :: (assignEach es C.env).map (·.2)) : PGs C (e :: es) (tGs X (ns ++ ms) (asgTs cl (.cons t ts))) := by
  refine PGs.weak (pgs_cons h1 h2 hs) fun vs σ H Q ⟨R, env, sto, ds, S, E, r, o⟩ => ?_
  unfold asgTs at o
  split at o
  · rename_i d ds
    cases r with
    | cons a b =>
      refine ⟨_, _, rfl, R, env, sto, d, S, E, a, (Out.bind o).imp (fun env1 s1 o1 σ1 H1 R1 g1 S1 E1 k1 k2 => ?_) fun _ _ _ w => w⟩
      refine ⟨R1, env1, s1, ds, S1, E1, Reps.mono g1.le _ b, o1.imp (fun env2 s2 q σ2 H2 R2 g2 S2 E2 k3 k4 => ?_) fun c fs s w => w⟩
      refine q σ2 H2 R2 (g1.trans g2) S2 E2 (fun i hi => ?_) fun i hi => ?_
      · rw [k3 i fun h => hi (List.mem_append_right _ h), k1 i fun h => hi (List.mem_append_left _ h)]
      · rw [k4 i fun h => hi (List.mem_append_right _ h), k2 i fun h => hi (List.mem_append_left _ h)]
  · exact o.elim
theorem asgTs_len {cl : Cl} {W' : Nat → List (Nat × D) → Sto → Prop} : ∀ {ts : Ts} {ds : List D} {env : Env} {s : Sto} {k : Env → Sto → Prop}, Out W' (asgTs cl ts ds env s) k → (∀ c fs s, ¬ W' c fs s) → ds.length = tsLen ts
  | .nil, ds, env, s, k, o, _ => by
    unfold asgTs at o
    split at o
    · rfl
    · exact o.elim
  | .cons t ts, ds, env, s, k, o, n => by
    unfold asgTs at o
    split at o
    · rename_i d ds
      have o := Out.bind o
      cases e : asgT cl t d env s with
      | ok p =>
        rw [e] at o
        exact congrArg Nat.succ (asgTs_len (show Out W' (asgTs cl ts ds p.1 p.2) k from o) n)
      | exc c fs s => rw [e] at o; exact absurd o (n _ _ _)
      | stuck => rw [e] at o; exact o.elim
    · exact o.elim
theorem dg_tup {es : List Expr} {k : Nat} {cl : Cl} {ts : Ts} {ns : List Nat} (hK : X.K = C.K) (hc : C.calm = true) (h : PGs C es (tGs X ns (asgTs cl ts)))
    (hn : (assignEach es C.env).length = tsLen ts) (hst : (assignEach es C.env).findIdx? (·.1) = none) : PG C (.Tuple es k pos) (tG X ns (asgT cl (.tp ts))) := by
  refine L2.PG.weak (pg_tup hc h hn hst) fun v σ H Q ⟨R, env, sto, d, S, E, r, o⟩ => ?_
  unfold asgT at o
  split at o
  · rename_i ds
    cases r with
    | tup e rs =>
      refine ⟨_, _, rfl, .inl (.inl (S.fz _ _ e)), ?_, R, env, sto, ds, S, E, rs, o⟩
      rw [rs.length]
      exact asgTs_len o fun _ _ _ z => z
  · exact o.elim
/-- a list of the store is written -/
theorem st_set {R : Rl} {H : Hp} {sto : Sto} {n : Nat} {p : Addr} {vs ws : List V} {ds es : List D} (S : StOk X R H sto) (hp : R.mu[n]? = some p) (hd : sto[n]? = some ds) (e : H p = some (.lst vs))
    (nb : nobs es = true) (r : Reps X { R with Bz := fun _ => none } ws es) : StOk X R (upd H p (.lst ws)) (sto.set n es) ∧ Grow R H R (upd H p (.lst ws)) := by
  have hm : p ∈ R.mu := List.mem_of_getElem? hp
  obtain ⟨f, b⟩ := S.notmu hm
  refine ⟨⟨fun a o h => ?_, fun a o h => ?_, by rw [List.length_set]; exact S.len, S.nd, fun m a ds' h1 h2 => ?_⟩, ⟨RLe.refl _, rfl, fun a o h hn => ?_, fun a h => .inl h, fun a h _ => ?_⟩⟩
  · rw [upd_ne (show a ≠ p from fun z => by rw [z, f] at h; cases h)]; exact S.fz a o h
  · rw [upd_ne (show a ≠ p from fun z => by rw [z, b] at h; cases h)]; exact S.bz a o h
  · by_cases hmn : n = m
    · subst hmn
      rw [hp] at h1; cases h1
      have hl : n < sto.length := (List.getElem?_eq_some_iff.mp hd).1
      rw [List.getElem?_set_self hl] at h2
      cases h2
      exact ⟨f, b, nb, ws, upd_same, r⟩
    · rw [List.getElem?_set_ne hmn] at h2
      obtain ⟨f', b', nb', vs', e', r'⟩ := S.at_ m a ds' h1 h2
      refine ⟨f', b', nb', vs', ?_, r'⟩
      rw [upd_ne (fun z => hmn ?_)]
      · exact e'
      · subst z
        have i1 := (List.getElem?_eq_some_iff.mp hp)
        have i2 := (List.getElem?_eq_some_iff.mp h1)
        exact (List.getElem_inj S.nd).mp (i1.2.trans i2.2.symm)
  · exact ⟨by rw [upd_ne (fun z : a = p => hn (by rw [z]; exact hm))]; exact h, rfl⟩
  · by_cases z : a = p
    · rw [z, upd_same]; intro q; cases q
    · rw [upd_ne z]; assumption
theorem nobs_set {d : D} (nb : nob d = true) : ∀ {xs : List D}, nobs xs = true → ∀ j, nobs (xs.set j d) = true
  | [], _, _ => rfl
  | z :: zs, h, 0 => by
    have z2 : Bc.nob z = true ∧ nobs zs = true := by simpa [nobs] using h
    simp [nobs, nb, z2.2]
  | z :: zs, h, j + 1 => by
    have z2 : Bc.nob z = true ∧ nobs zs = true := by simpa [nobs] using h
    simp [nobs, z2.1, nobs_set nb z2.2 j]
theorem dg_sub {a b : Expr} {cl : Cl} {ea eb : E} (hK : X.K = C.K) (ha : PE C a (tT X W (evE cl ea))) (hb : PE C b (tT X W (evE cl eb)))
    (he : ∀ v, assign (.Subscript a b pos) C.env v = (do
      let ov ← holding [v] (eval a C.env)
      let iv ← holding [v, ov] (eval b C.env)
      standAt pos
      holding [v, ov, iv] (setItem ov iv v)
      release [v, ov, iv] [])) : PG C (.Subscript a b pos) (tG X [] (asgT cl (.sub ea eb))) := by
  refine L2.PG.weak (pg_sub ha hb set_list he) fun v σ H Q ⟨R, env, sto, d, S, E, r, o⟩ => ?_
  unfold asgT at o
  refine ⟨R, env, sto, S, E, (Out.noX (W' := wE X W R H σ) (Out.bind o)).imp (fun x s1 o1 vx H1 R1 g1 S1 r1 => ?_) fun _ _ _ w => w⟩
  refine ⟨R1, env, s1, S1, E.grow g1, (Out.noX (W' := wE X W R1 H1 σ) (Out.bind o1)).imp (fun y s2 o2 vy H2 R2 g2 S2 r2 => ?_) fun _ _ _ w => w⟩
  have o2 := Out.bind o2
  cases x with
  | loc n =>
    cases y with
    | int i =>
      obtain ⟨p, rfl, hp⟩ := (r1.grow g2).loc
      have ey := r2.int
      subst ey
      unfold setSub at o2
      dsimp only at o2
      cases hxs : s2[n]? with
      | none => rw [hxs] at o2; exact o2.elim
      | some xs =>
        rw [hxs] at o2
        dsimp only at o2
        cases hj : ixN xs.length i with
        | none => rw [hj] at o2; exact o2.elim
        | some j =>
          rw [hj] at o2
          dsimp only at o2
          cases nb : nob d with
          | false => rw [nb] at o2; exact o2.elim
          | true =>
            rw [nb, if_pos rfl] at o2
            have hp' : R2.mu[n]? = some p := hp
            obtain ⟨f, b, nb', vs, e, rs⟩ := S2.at_ n p xs hp' hxs
            have rd : Rep X { R2 with Bz := fun _ => none } v d := Rep.nob _ d nb (r.mono (g1.trans g2).le)
            have nbs : nobs (xs.set j d) = true := nobs_set nb nb' j
            obtain ⟨S3, g3⟩ := st_set S2 hp' hxs e nbs (rs.set rd j)
            refine ⟨p, vs, i, j, rfl, rfl, e, by rw [rs.length]; exact hj, ?_⟩
            have q : ∀ (σ' : L2.St) (H' : Hp) (R' : Rl), Grow R H R' H' → StOk X R' H' (s2.set n (xs.set j d)) → EnvOk X R' H' σ' env → (∀ i : Nat, i ∉ ([] : List Nat) → σ'[i]? = σ[i]?) → (∀ i : Nat, i ∉ ([] : List Nat) → env[i]? = env[i]?) → Q σ' H' := o2
            exact q σ _ R2 ((g1.trans g2).trans g3) S3 (E.grow ((g1.trans g2).trans g3)) (fun _ _ => rfl) fun _ _ => rfl
    | _ => exact o2.elim
  | _ => exact (show False by cases y <;> exact o2).elim
end
end Bc

set_option linter.all false
set_option autoImplicit false
set_option maxRecDepth 100000
set_option maxHeartbeats 1000000
namespace Bc
open PySem PySem.Spec L2

abbrev W0 : WD := fun _ _ _ _ _ _ => False
section
variable {X : Sx} {W : WD} {C : Cx} {pos : Pos}
theorem wipe_len (env : Env) : ∀ vs : List Nat, (Bc.wipe env vs).length = env.length
  | [] => rfl
  | v :: vs => by unfold Bc.wipe; rw [List.length_set, wipe_len env vs]
theorem wipeE_get {env : Env} {i : Nat} {s : Slot} : ∀ {vs : List Nat}, (Bc.wipe env vs)[i]? = some s → s = .un ∨ (env[i]? = some s ∧ i ∉ vs)
  | [], h => .inr ⟨h, by simp⟩
  | v :: vs, h => by
    unfold Bc.wipe at h
    by_cases hi : v = i
    · subst hi
      by_cases hv : v < (Bc.wipe env vs).length
      · rw [List.getElem?_set_self hv] at h; exact .inl (Option.some.inj h).symm
      · rw [List.getElem?_eq_none (by simpa using hv)] at h; cases h
    · rw [List.getElem?_set_ne hi] at h
      rcases wipeE_get h with z | ⟨z, m⟩
      · exact .inl z
      · exact .inr ⟨z, by simp only [List.mem_cons, not_or]; exact ⟨fun e => hi e.symm, m⟩⟩
theorem EnvOk.wipe {R : Rl} {H : Hp} {σ : L2.St} {env : Env} (E : EnvOk X R H σ env) (vs : List Nat) : EnvOk X R H (L2.wipe σ vs) (Bc.wipe env vs) := by
  refine ⟨by rw [wipe_length, wipe_len]; exact E.len, fun i s e => ?_, fun i j si sj a e1 e2 o1 o2 q1 q2 => ?_⟩
  · rcases wipeE_get e with z | ⟨z, m⟩
    · subst z; trivial
    · have := E.at_ i s z
      rw [wipe_out m]; exact this
  · rcases wipeE_get e1 with z1 | ⟨z1, m1⟩
    · subst z1; cases o1
    · rcases wipeE_get e2 with z2 | ⟨z2, m2⟩
      · subst z2; cases o2
      · rw [wipe_out m1] at q1
        rw [wipe_out m2] at q2
        exact E.sep i j si sj a z1 z2 o1 o2 q1 q2
theorem wipe_eq {σ σ' : L2.St} {vs : List Nat} (hl : σ'.length = σ.length) (h : ∀ i, i ∉ vs → σ'[i]? = σ[i]?) : L2.wipe σ' vs = L2.wipe σ vs := by
  apply List.ext_getElem?
  intro i
  by_cases hi : i ∈ vs
  · have gen : ∀ (τ : L2.St) (ws : List Nat), i ∈ ws → (L2.wipe τ ws)[i]? = if i < τ.length then some none else none := fun τ ws => by
      induction ws with
      | nil => intro z; cases z
      | cons w ws ih =>
        intro z
        unfold L2.wipe
        by_cases hw : w = i
        · subst hw
          by_cases hlt : w < τ.length
          · rw [List.getElem?_set_self (by rw [wipe_length]; exact hlt), if_pos hlt]
          · rw [List.getElem?_eq_none (by rw [List.length_set, wipe_length]; omega), if_neg hlt]
        · rw [List.getElem?_set_ne hw]
          rcases List.mem_cons.mp z with z | z
          · exact absurd z.symm hw
          · exact ih z
    rw [gen _ _ hi, gen _ _ hi, hl]
  · rw [wipe_out hi, wipe_out hi]; exact h i hi
theorem wipe_wipe (σ : L2.St) (vs : List Nat) : L2.wipe (L2.wipe σ vs) vs = L2.wipe σ vs := wipe_eq (wipe_length _ _) fun i hi => wipe_out hi

/-- a fresh list that is being filled, at D -/
structure Fill (X : Sx) (R : Rl) (H : Hp) (D : Addr) (acc : List Bc.D) : Prop where
  at_ : ∃ vs, H D = some (.lst vs) ∧ Reps X R vs acc
  fz : R.Fz D = none
  bz : R.Bz D = none
  mu : D ∉ R.mu
theorem Fill.grow {R R' : Rl} {H H' : Hp} {D : Addr} {acc : List Bc.D} (g : Grow R H R' H') (f : Fill X R H D acc) : Fill X R' H' D acc := by
  obtain ⟨vs, e, r⟩ := f.at_
  obtain ⟨k1, k2⟩ := g.kept D _ e f.mu
  exact ⟨⟨vs, k1, Reps.mono g.le _ r⟩, k2.trans f.fz, by rw [g.eB]; exact f.bz, g.notmu e f.mu⟩
/-- the heap outside D -/
theorem StOk.at {R : Rl} {H : Hp} {sto : Sto} {D : Addr} {o : HO} (S : StOk X R H sto) (f : R.Fz D = none) (b : R.Bz D = none) (m : D ∉ R.mu) : StOk X R (upd H D o) sto := by
  refine ⟨fun a q e => ?_, fun a q e => ?_, S.len, S.nd, fun n a ds e1 e2 => ?_⟩
  · rw [upd_ne (show a ≠ D from fun z => by rw [z, f] at e; cases e)]; exact S.fz a q e
  · rw [upd_ne (show a ≠ D from fun z => by rw [z, b] at e; cases e)]; exact S.bz a q e
  · obtain ⟨f', b', nb, vs, e3, r⟩ := S.at_ n a ds e1 e2
    exact ⟨f', b', nb, vs, by rw [upd_ne (show a ≠ D from fun z => m (z ▸ List.mem_of_getElem? e1))]; exact e3, r⟩
/-- grown since (R0, H0), where nothing stood at D -/
theorem Grow.at {R0 R : Rl} {H0 H : Hp} {D : Addr} {o : HO} (g : Grow R0 H0 R H) (h : H0 D = none) (hD : D ∉ R0.mu) : Grow R0 H0 R (upd H D o) := by
  refine ⟨g.le, g.eB, fun a q e m => ?_, g.muN, fun a m e => ?_⟩
  · obtain ⟨k1, k2⟩ := g.kept a q e m
    exact ⟨by rw [upd_ne (ne_of_none e h)]; exact k1, k2⟩
  · by_cases z : a = D
    · rw [z, upd_same]; intro q; cases q
    · rw [upd_ne z]; exact g.there a m e
theorem Fill.push {R : Rl} {H : Hp} {D : Addr} {acc : List Bc.D} {vs : List V} {y : V} {d : Bc.D} (f : Fill X R H D acc) (e : H D = some (.lst vs)) (r : Rep X R y d) : Fill X R (upd H D (.lst (vs ++ [y]))) D (acc ++ [d]) := by
  obtain ⟨ws, e2, rs⟩ := f.at_
  rw [e] at e2
  cases e2
  exact ⟨⟨_, upd_same, rs.append (.cons r .nil)⟩, f.fz, f.bz, f.mu⟩
theorem Fill.done2 {R0 R : Rl} {H0 H : Hp} {sto : Sto} {D : Addr} {acc : List Bc.D} {vs : List V} (f : Fill X R H D acc) (e : H D = some (.lst vs)) (rs : Reps X R vs acc) (S : StOk X R H sto) (g : Grow R0 H0 R H) (h : H0 D = none) :
    RLe R (R.put D (.lst vs)) ∧ Grow R0 H0 (R.put D (.lst vs)) H ∧ StOk X (R.put D (.lst vs)) H sto ∧ Rep X (R.put D (.lst vs)) (.ref D) (.lst true acc) := by
  have le : RLe R (R.put D (.lst vs)) := put_le f.fz
  have hp : ∀ a, a ≠ D → (R.put D (.lst vs)).Fz a = R.Fz a := fun a z => upd_ne z
  have hD : (R.put D (.lst vs)).Fz D = some (.lst vs) := upd_same
  refine ⟨le, ⟨g.le.trans le, g.eB, fun a o e1 m => ?_, g.muN, g.there⟩, ⟨fun a o e1 => ?_, S.bz, S.len, S.nd, fun n a ds e1 e2 => ?_⟩, .lst hD (Reps.mono le _ rs)⟩
  · obtain ⟨k1, k2⟩ := g.kept a o e1 m
    exact ⟨k1, by rw [hp a (ne_of_none e1 h)]; exact k2⟩
  · by_cases z : a = D
    · rw [z, hD] at e1
      rw [z, e]; exact e1
    · rw [hp a z] at e1; exact S.fz a o e1
  · obtain ⟨f', b', nb, ws, e3, r⟩ := S.at_ n a ds e1 e2
    refine ⟨by rw [hp a (fun z => f.mu (z ▸ List.mem_of_getElem? e1))]; exact f', b', nb, ws, e3, ?_⟩
    exact Reps.mono (R := { R with Bz := fun _ => none }) (R' := { R.put D (.lst vs) with Bz := fun _ => none }) ⟨le.fz, HLe.refl _, fun _ _ e => e⟩ _ r
/-- it is done: frozen -/
theorem Fill.done {R0 R : Rl} {H0 H : Hp} {sto : Sto} {D : Addr} {acc : List Bc.D} (f : Fill X R H D acc) (S : StOk X R H sto) (g : Grow R0 H0 R H) (h : H0 D = none) :
    ∃ R', Grow R0 H0 R' H ∧ StOk X R' H sto ∧ Rep X R' (.ref D) (.lst true acc) := by
  obtain ⟨vs, e, rs⟩ := f.at_
  have le : RLe R (R.put D (.lst vs)) := put_le f.fz
  have hp : ∀ a, a ≠ D → (R.put D (.lst vs)).Fz a = R.Fz a := fun a z => upd_ne z
  have hD : (R.put D (.lst vs)).Fz D = some (.lst vs) := upd_same
  refine ⟨R.put D (.lst vs), ⟨g.le.trans le, g.eB, fun a o e1 m => ?_, g.muN, g.there⟩, ⟨fun a o e1 => ?_, S.bz, S.len, S.nd, fun n a ds e1 e2 => ?_⟩, .lst hD (Reps.mono le _ rs)⟩
  · obtain ⟨k1, k2⟩ := g.kept a o e1 m
    exact ⟨k1, by rw [hp a (ne_of_none e1 h)]; exact k2⟩
  · by_cases z : a = D
    · rw [z, hD] at e1
      rw [z, e]; exact e1
    · rw [hp a z] at e1; exact S.fz a o e1
  · obtain ⟨f', b', nb, ws, e3, r⟩ := S.at_ n a ds e1 e2
    refine ⟨by rw [hp a (fun z => f.mu (z ▸ List.mem_of_getElem? e1))]; exact f', b', nb, ws, e3, ?_⟩
    exact Reps.mono (R := { R with Bz := fun _ => none }) (R' := { R.put D (.lst vs) with Bz := fun _ => none }) ⟨le.fz, HLe.refl _, fun _ _ e => e⟩ _ r

theorem bind_ok {α β : Type} {m : M α} {f : α → M β} {s : Sto} {p : β × Sto} (h : (m.bind f) s = .ok p) : ∃ a s1, m s = .ok (a, s1) ∧ f a s1 = .ok p := by
  unfold M.bind at h
  cases e : m s with
  | ok q => obtain ⟨a, s1⟩ := q; rw [e] at h; exact ⟨a, s1, rfl, h⟩
  | exc _ _ _ => rw [e] at h; cases h
  | stuck => rw [e] at h; cases h
mutual
theorem asgT_len {cl : Cl} {W' : Nat → List (Nat × Bc.D) → Sto → Prop} : ∀ {t : T} {d : Bc.D} {env : Env} {s : Sto} {k : Env → Sto → Prop}, Out W' (asgT cl t d env s) k → ∀ {env' : Env} {s' : Sto}, asgT cl t d env s = .ok (env', s') → env'.length = env.length
  | .nm i, d, env, s, k, o, env', s', e => by
    unfold asgT at e
    split at e
    · cases e; rw [List.length_set]
    · cases e
  | .tp ts, d, env, s, k, o, env', s', e => by
    unfold asgT at e
    split at e
    · exact asgTs_length e
    · cases e
  | .sub a b, d, env, s, k, o, env', s', e => by
    unfold asgT at e
    obtain ⟨_, _, _, e⟩ := bind_ok e
    obtain ⟨_, _, _, e⟩ := bind_ok e
    obtain ⟨_, _, _, e⟩ := bind_ok e
    cases e; rfl
theorem asgTs_length {cl : Cl} : ∀ {ts : Ts} {ds : List Bc.D} {env : Env} {s : Sto} {env' : Env} {s' : Sto}, asgTs cl ts ds env s = .ok (env', s') → env'.length = env.length
  | .nil, ds, env, s, env', s', e => by
    unfold asgTs at e
    split at e
    · cases e; rfl
    · cases e
  | .cons t ts, ds, env, s, env', s', e => by
    unfold asgTs at e
    split at e
    · obtain ⟨env1, s1, e1, e⟩ := bind_ok e
      rw [asgTs_length e, asgT_len (W' := noW) (k := fun _ _ => True) (by rw [e1]; trivial) e1]
    · cases e
end
/-- the loop's own equation -/
theorem mapO_cons {f : Bc.D → M (Option Bc.D)} {x : Bc.D} {xs : List Bc.D} {s sf : Sto} {ys : List Bc.D} (h : mapO f (x :: xs) s = .ok (ys, sf)) :
    ∃ o s1 zs, f x s = .ok (o, s1) ∧ mapO f xs s1 = .ok (zs, sf) ∧ ys = (match o with | some y => y :: zs | none => zs) := by
  unfold mapO M.bind at h
  cases e : f x s with
  | ok p =>
    obtain ⟨o, s1⟩ := p
    rw [e] at h
    dsimp only at h
    cases e2 : mapO f xs s1 with
    | ok p2 =>
      obtain ⟨zs, s2⟩ := p2
      rw [e2] at h
      cases o with
      | some y => cases h; exact ⟨_, _, _, rfl, e2, rfl⟩
      | none => cases h; exact ⟨_, _, _, rfl, e2, rfl⟩
    | exc _ _ _ => rw [e2] at h; cases h
    | stuck => rw [e2] at h; cases h
  | exc _ _ _ => rw [e] at h; cases h
  | stuck => rw [e] at h; cases h
theorem out_ok {α : Type} {W' : Nat → List (Nat × Bc.D) → Sto → Prop} {r : Bc.R (α × Sto)} {a : α} {s : Sto} {k : α → Sto → Prop} (e : r = .ok (a, s)) (h : k a s) : Out W' r k := by rw [e]; exact h

/-- the reading of an expression that makes a list of its own -/
def tN (X : Sx) (W : WD) (f : Env → M Bc.D) : TE := fun σ H Q => ∃ R env sto, StOk X R H sto ∧ EnvOk X R H σ env ∧
  Out (wE X W R H σ) (f env sto) fun d s' => ∃ ds, d = .lst true ds ∧ ∀ a H' R', Grow R H R' H' → StOk X R' H' s' → H a = none → Fill X R' H' a ds → Q (.ref a) H'
theorem tN_tD {f : Env → M Bc.D} {σ : L2.St} {H : Hp} {Q : VK} (hl : ∀ W' env s k, Out W' (f env s) k → Out W' (f env s) fun (d : Bc.D) s' => k d s' ∧ ∃ ds, d = .lst true ds) (h : tD X W f σ H Q) : tN X W f σ H Q := by
  obtain ⟨R, env, sto, S, E, o⟩ := h
  refine ⟨R, env, sto, S, E, (hl _ _ _ _ o).imp (fun d s' ⟨q, ds, e⟩ => ⟨ds, e, fun a H' R' g S' hn F => ?_⟩) fun _ _ _ w => w⟩
  obtain ⟨R2, g2, S2, r2⟩ := F.done S' g hn
  subst e
  exact q _ H' R2 g2 S2 r2
theorem lc_read {cl : Cl} {t : T} {k : Itb} {it cs : Es} {e : E} {vs ns : List Nat} {σ : L2.St} {H : Hp} {Q : VK} (h : tN X W (evE cl (.lc t k it cs e vs)) σ H Q) (hns : ∀ n ∈ ns, n ∈ vs) :
    tLc (tI X W true fun env => (evEs cl it env).bind (itD k)) (tG X ns (asgT cl t)) (tB X W0 (evCs cl cs)) (tD X W0 (evE cl e)) vs σ H Q := by
  obtain ⟨R0, env, s0, S0, E0, o⟩ := h
  unfold evE at o
  have o : Out (wE X W R0 H σ) ((((evEs cl it env).bind (itD k)).bind fun items => (noX (mapO (fun d => (asgT cl t d (Bc.wipe env vs)).bind fun env1 => (evCs cl cs env1).bind fun b => if b then (evE cl e env1).bind fun y => pure (some y) else pure none) items)).bind fun ys =>
      (need (lenOk ys.length)).bind fun _ => pure (.lst true ys)) s0) (fun (d : Bc.D) (s' : Sto) => ∃ ds, d = Bc.D.lst true ds ∧ ∀ a H' R', Grow R0 H R' H' → StOk X R' H' s' → H a = none → Fill X R' H' a ds → Q (.ref a) H') := by
    refine Out.conv ?_ o
    unfold M.bind
    cases evEs cl it env s0 <;> rfl
  refine ⟨R0, env, s0, S0, E0, (Out.bind o).imp (fun items s1 o1 J H1 R1 g1 S1 jok => ?_) fun _ _ _ w => w⟩
  intro D hD
  generalize hf : (fun d => (asgT cl t d (Bc.wipe env vs)).bind fun env1 => (evCs cl cs env1).bind fun b => if b then (evE cl e env1).bind fun y => (pure (some y) : M (Option Bc.D)) else pure none) = f at o1
  have o2 := Out.bind o1
  obtain ⟨ys, sf, ey, o2⟩ : ∃ ys sf, mapO f items s1 = .ok (ys, sf) ∧ Out (wE X W R0 H σ) (((need (lenOk ys.length)).bind fun _ => M.pure (.lst true ys)) sf) (fun (d : Bc.D) (s' : Sto) => ∃ ds, d = Bc.D.lst true ds ∧ ∀ a H' R', Grow R0 H R' H' → StOk X R' H' s' → H a = none → Fill X R' H' a ds → Q (.ref a) H') := by
    unfold noX at o2
    cases e1 : mapO f items s1 with
    | ok p => rw [e1] at o2; exact ⟨p.1, p.2, rfl, o2⟩
    | exc _ _ _ => rw [e1] at o2; exact o2.elim
    | stuck => rw [e1] at o2; exact o2.elim
  obtain ⟨hl, o3⟩ := o2.needB
  have hl := lenOk_line hl
  have E1 : EnvOk X R1 H1 σ env := E0.grow g1
  have hD1 : R1.Fz D = none := fz_none S1 hD
  have hB1 : R1.Bz D = none := by
    cases z : R1.Bz D with
    | none => rfl
    | some o => rw [S1.bz D o z] at hD; cases hD
  have hM1 : D ∉ R1.mu := fun z => by
    obtain ⟨n, hn⟩ := List.getElem?_of_mem z
    have hlt : n < s1.length := by rw [← S1.len]; exact (List.getElem?_eq_some_iff.mp hn).1
    obtain ⟨_, _, _, ws, e3, _⟩ := S1.at_ n D s1[n] hn (by simp [hlt])
    rw [hD] at e3; cases e3
  have hD0 : H D = none := by
    cases z : H D with
    | none => rfl
    | some o =>
      by_cases m : D ∈ R0.mu
      · exact absurd hD (g1.there D m (by rw [z]; intro q; cases q))
      · rw [(g1.kept D o z m).1] at hD; cases hD
  -- the invariant
  refine ⟨fun i m H' => m = items.length - i ∧ i ≤ items.length ∧ ∃ R' s' acc zs, Grow R1 H1 R' H' ∧ StOk X R' H' s' ∧ Fill X R' H' D acc ∧ mapO f (items.drop i) s' = .ok (zs, sf) ∧ acc ++ zs = ys, ⟨items.length, by simp, Nat.zero_le _, R1, s1, [], ys, ?_, S1.at hD1 hB1 hM1, ⟨⟨[], upd_same, .nil⟩, hD1, hB1, hM1⟩, by simpa using ey, rfl⟩, ?_⟩
  · exact (Grow.refl R1 H1).at hD hM1
  rintro i m H2 ⟨rfl, hi, R2, s2, acc, zs, g2, S2, F2, e2, ea⟩
  by_cases hlt : i < items.length
  · refine .inr ?_
    obtain ⟨go, yl⟩ := jok.go R2 H2 s2 i items[i] (show Grow R1 H1 R2 H2 from g2) S2 (by simp [hlt])
    rw [List.drop_eq_getElem_cons hlt] at e2
    obtain ⟨ob, s3, zs2, e3, e4, ez⟩ := mapO_cons e2
    refine ⟨go, fun H' => i + 1 ≤ items.length ∧ ∃ R' s' acc zs, Grow R1 H1 R' H' ∧ StOk X R' H' s' ∧ Fill X R' H' D acc ∧ mapO f (items.drop (i + 1)) s' = .ok (zs, sf) ∧ acc ++ zs = ys, fun H' n => ⟨items.length - (i + 1), by omega, rfl, n⟩, fun x H3 y => ?_⟩
    obtain ⟨R3, g3, S3, r3⟩ := yl x H3 y
    rw [← hf] at e3
    obtain ⟨env1, s4, e5, e3⟩ := bind_ok e3
    obtain ⟨b, s5, e6, e3⟩ := bind_ok e3
    have g13 := g2.trans g3
    refine ⟨R3, Bc.wipe env vs, s2, items[i], S3, ((E1.grow g13).wipe vs), r3, out_ok e5 fun σ4 H4 R4 g4 S4 E4 k1 _ => ?_⟩
    refine ⟨?_, R4, env1, s4, S4, E4, out_ok e6 fun H5 R5 g5 S5 => ?_⟩
    · have hl4 : σ4.length = (L2.wipe σ vs).length := by
        have a1 := E4.len
        have a2 := ((E1.grow g13).wipe vs).len
        have : env1.length = (Bc.wipe env vs).length := asgT_len (W' := noW) (k := fun _ _ => True) (by rw [e5]; trivial) e5
        omega
      have w1 := wipe_eq hl4 (vs := vs) fun i hi => k1 i fun z => hi (hns i z)
      rw [w1]; exact wipe_wipe σ vs
    · have g15 := (g13.trans g4).trans g5
      have F5 := ((F2.grow g3).grow g4).grow g5
      cases b with
      | false =>
        rw [if_neg Bool.false_ne_true] at e3
        cases e3
        refine iteF ?_
        exact ⟨hlt, R5, s3, acc, zs2, g15, S5, F5, e4, by rw [ez] at ea; exact ea⟩
      | true =>
        rw [if_pos rfl] at e3
        refine iteT ?_
        obtain ⟨yv, s6, e7, e3⟩ := bind_ok e3
        cases e3
        refine ⟨R5, env1, s5, S5, E4.grow g5, out_ok e7 fun v H6 R6 g6 S6 r6 => ?_⟩
        have F6 := F5.grow g6
        obtain ⟨ws, ew, rw6⟩ := F6.at_
        have ez : zs = yv :: zs2 := ez
        have lena : ws.length < sizeLine := by
          rw [rw6.length]
          have : ys.length = acc.length + (zs2.length + 1) := by rw [← ea, ez, List.length_append, List.length_cons]
          omega
        refine ⟨ws, ew, lena, hlt, R6, s3, acc ++ [yv], zs2, (g15.trans g6).at hD hM1, S6.at F6.fz F6.bz F6.mu, F6.push ew r6, e4, ?_⟩
        rw [← ea, ez, List.append_assoc]; rfl
  · refine .inl ⟨jok.stop R2 H2 s2 i (show Grow R1 H1 R2 H2 from g2) S2 (by omega), ?_⟩
    rw [List.drop_eq_nil_of_le (by omega)] at e2
    cases e2
    rw [List.append_nil] at ea
    subst ea
    obtain ⟨ds, e9, q9⟩ := Out.pure (show Out _ (M.pure (Bc.D.lst true acc) sf) _ from o3)
    cases e9
    exact q9 D H2 R2 (g1.trans g2) S2 hD0 F2
theorem lc_lst {cl : Cl} {t : T} {k : Itb} {it cs : Es} {e : E} {vs : List Nat} {W' : Nat → List (Nat × Bc.D) → Sto → Prop} {env : Env} {s : Sto} {kk : Bc.D → Sto → Prop} (h : Out W' (evE cl (.lc t k it cs e vs) env s) kk) :
    Out W' (evE cl (.lc t k it cs e vs) env s) fun d s' => kk d s' ∧ ∃ ds, d = .lst true ds := by
  unfold evE at h ⊢
  have key : ∀ (ys : List Bc.D) (s' : Sto), Out W' (((need (lenOk ys.length)).bind fun _ => (M.pure (.lst true ys) : M Bc.D)) s') kk → Out W' (((need (lenOk ys.length)).bind fun _ => (M.pure (.lst true ys) : M Bc.D)) s') fun d s' => kk d s' ∧ ∃ ds, d = .lst true ds := fun ys s' h => by
    obtain ⟨hl, h⟩ := h.needB
    rw [hl]
    exact ⟨h, _, rfl⟩
  refine Out.unbind (Out.bind h) fun ds s1 h1 => ?_
  refine Out.unbind (Out.bind h1) fun ds s1 h1 => ?_
  refine Out.unbind (Out.bind h1) fun ds s1 h1 => ?_
  exact key _ _ h1
theorem dx_lc {elt tg iter : Expr} {ifs : List Expr} {scope : Scope} {ownp : List (Str × Nat)} {cl : Cl} {t : T} {k : Itb} {it cs : Es} {e : E} {ns : List Nat}
    (hK : X.K = C.K) (hc : C.calm = true) (hN : C.N.Nodup) (hi : PI C tg iter (tI X W true fun env => (evEs cl it env).bind (itD k))) (ok : BlkOk C.N C.env.scope scope ownp)
    (hg : ∀ (s : Shared) (H : Hp) (A : Addr) (c : List (Str × Addr)) (fp : List Addr), PG (C.blk s H scope (compEnvC scope c A C.env) fp) tg (tG X ns (asgT cl t))) (hns : ∀ n ∈ ns, n ∈ ownp.map (·.2))
    (ht : ∀ (s : Shared) (H : Hp) (A : Addr) (c : List (Str × Addr)) (fp : List Addr), PTs (C.blk s H scope (compEnvC scope c A C.env) fp) ifs (tB X W0 (evCs cl cs)))
    (he : ∀ (s : Shared) (H : Hp) (A : Addr) (c : List (Str × Addr)) (fp : List Addr), PE (C.blk s H scope (compEnvC scope c A C.env) fp) elt (tD X W0 (evE cl e)))
    (hs : ∀ x, foldedSetIterable iter C.env x = pure x) :
    PE C (.ListComp elt [⟨tg, iter, ifs, 0⟩] scope pos) (tD X W (evE cl (.lc t k it cs e (ownp.map (·.2))))) := by
  refine (pe_lc hc hN hi ok hg ht he hs).weak fun σ H Q h => ?_
  exact lc_read (tN_tD (fun _ _ _ _ => lc_lst) h) hns
/-- .. its list kept as one's own -/
theorem dn_lc {elt tg iter : Expr} {ifs : List Expr} {scope : Scope} {ownp : List (Str × Nat)} {cl : Cl} {t : T} {k : Itb} {it cs : Es} {e : E} {ns : List Nat}
    (hK : X.K = C.K) (hc : C.calm = true) (hN : C.N.Nodup) (hi : PI C tg iter (tI X W true fun env => (evEs cl it env).bind (itD k))) (ok : BlkOk C.N C.env.scope scope ownp)
    (hg : ∀ (s : Shared) (H : Hp) (A : Addr) (c : List (Str × Addr)) (fp : List Addr), PG (C.blk s H scope (compEnvC scope c A C.env) fp) tg (tG X ns (asgT cl t))) (hns : ∀ n ∈ ns, n ∈ ownp.map (·.2))
    (ht : ∀ (s : Shared) (H : Hp) (A : Addr) (c : List (Str × Addr)) (fp : List Addr), PTs (C.blk s H scope (compEnvC scope c A C.env) fp) ifs (tB X W0 (evCs cl cs)))
    (he : ∀ (s : Shared) (H : Hp) (A : Addr) (c : List (Str × Addr)) (fp : List Addr), PE (C.blk s H scope (compEnvC scope c A C.env) fp) elt (tD X W0 (evE cl e)))
    (hs : ∀ x, foldedSetIterable iter C.env x = pure x) :
    PE C (.ListComp elt [⟨tg, iter, ifs, 0⟩] scope pos) (tN X W (evE cl (.lc t k it cs e (ownp.map (·.2))))) :=
  (pe_lc hc hN hi ok hg ht he hs).weak fun σ H Q h => lc_read h hns
end
end Bc

set_option linter.all false
set_option autoImplicit false
set_option maxRecDepth 100000
set_option maxHeartbeats 1000000
namespace Bc
open PySem PySem.Spec L2

/-! ### sorting -/
theorem insI_perm (x : Int) : ∀ l, (insI x l).Perm (x :: l)
  | [] => .refl _
  | y :: r => by
    unfold insI
    split
    · exact .refl _
    · exact ((insI_perm x r).cons y).trans (.swap x y r)
theorem sortI_perm : ∀ l, (sortI l).Perm l
  | [] => .refl _
  | x :: r => (insI_perm x _).trans ((sortI_perm r).cons x)
theorem insI_pw (x : Int) : ∀ l : List Int, l.Pairwise (· ≤ ·) → (insI x l).Pairwise (· ≤ ·)
  | [], _ => List.pairwise_singleton _ _
  | y :: r, h => by
    unfold insI
    obtain ⟨h1, h2⟩ := List.pairwise_cons.mp h
    split
    · rename_i hx
      refine List.pairwise_cons.mpr ⟨fun z hz => ?_, h⟩
      rcases List.mem_cons.mp hz with rfl | hz
      · exact hx
      · exact Int.le_trans hx (h1 z hz)
    · rename_i hx
      refine List.pairwise_cons.mpr ⟨fun z hz => ?_, insI_pw x r h2⟩
      rcases List.mem_cons.mp ((insI_perm x r).mem_iff.mp hz) with rfl | hz
      · omega
      · exact h1 z hz
theorem sortI_pw : ∀ l, (sortI l).Pairwise (· ≤ ·)
  | [] => .nil
  | x :: r => insI_pw x _ (sortI_pw r)
theorem sortI_uniq {l m : List Int} (p : l.Perm m) (h : l.Pairwise (· ≤ ·)) : l = sortI m :=
  (p.trans (sortI_perm m).symm).eq_of_pairwise (fun x y _ _ h1 h2 => Int.le_antisymm h1 h2) h (sortI_pw m)
def leS (a b : Str) : Prop := ltCps b.cps.toList a.cps.toList = false
theorem leS_iff {a b : Str} : leS a b ↔ a.cps.toList ≤ b.cps.toList := by
  unfold leS
  rw [PyProof.Rows.ltCps_eq, decide_eq_false_iff_not]
  exact Iff.rfl
theorem leS_trans {a b c : Str} (h : leS a b) (k : leS b c) : leS a c := by
  rw [leS_iff] at h k ⊢
  exact List.le_trans h k
theorem leS_anti {a b : Str} (h : leS a b) (k : leS b a) : a = b := by
  rw [leS_iff] at h k
  have := List.le_antisymm h k
  obtain ⟨⟨x⟩⟩ := a
  obtain ⟨⟨y⟩⟩ := b
  have e : x = y := this
  rw [e]
theorem leS_total {a b : Str} (h : ltCps a.cps.toList b.cps.toList = true) : leS a b := by
  rw [leS_iff]
  rw [PyProof.Rows.ltCps_eq, decide_eq_true_eq] at h
  exact List.le_of_lt h
theorem insS_perm (x : Str) : ∀ l, (insS x l).Perm (x :: l)
  | [] => .refl _
  | y :: r => by
    unfold insS
    split
    · exact ((insS_perm x r).cons y).trans (.swap x y r)
    · exact .refl _
theorem sortS_perm : ∀ l, (sortS l).Perm l
  | [] => .refl _
  | x :: r => (insS_perm x _).trans ((sortS_perm r).cons x)
theorem insS_pw (x : Str) : ∀ l : List Str, l.Pairwise leS → (insS x l).Pairwise leS
  | [], _ => List.pairwise_singleton _ _
  | y :: r, h => by
    unfold insS
    obtain ⟨h1, h2⟩ := List.pairwise_cons.mp h
    split
    · rename_i hx
      refine List.pairwise_cons.mpr ⟨fun z hz => ?_, insS_pw x r h2⟩
      rcases List.mem_cons.mp ((insS_perm x r).mem_iff.mp hz) with rfl | hz
      · exact leS_total hx
      · exact h1 z hz
    · rename_i hx
      have hx : leS x y := by unfold leS; simpa using hx
      refine List.pairwise_cons.mpr ⟨fun z hz => ?_, h⟩
      rcases List.mem_cons.mp hz with rfl | hz
      · exact hx
      · exact leS_trans hx (h1 z hz)
theorem sortS_pw : ∀ l, (sortS l).Pairwise leS
  | [] => .nil
  | x :: r => insS_pw x _ (sortS_pw r)
theorem rising_pw : ∀ (l : List Str) (p : Str), PyProof.Rows.risingS p l = true → (p :: l).Pairwise leS
  | [], p, _ => List.pairwise_singleton _ _
  | x :: r, p, h => by
    unfold PyProof.Rows.risingS at h
    rw [Bool.and_eq_true] at h
    have ih := rising_pw r x h.2
    have hx : leS p x := by unfold leS; simpa using h.1
    refine List.pairwise_cons.mpr ⟨fun z hz => ?_, ih⟩
    rcases List.mem_cons.mp hz with rfl | hz
    · exact hx
    · exact leS_trans hx ((List.pairwise_cons.mp ih).1 z hz)
theorem sorted_pw {l : List Str} (h : PyProof.Rows.sortedS l = true) : l.Pairwise leS := by
  cases l with
  | nil => exact .nil
  | cons x r => exact rising_pw r x h
theorem sortS_uniq {l m : List Str} (p : l.Perm m) (h : PyProof.Rows.sortedS l = true) : l = sortS m :=
  (p.trans (sortS_perm m).symm).eq_of_pairwise (fun x y _ _ h1 h2 => leS_anti h1 h2) (sorted_pw h) (sortS_pw m)

/-! ### built-in functions -/
/-- a rule r of the layer answers what g does on trees -/
def FnR (X : Sx) (r : List V → Hp → VK → Prop) (g : List D → M D) : Prop := ∀ (W' : Nat → List (Nat × D) → Sto → Prop) (R : Rl) (H : Hp) (sto : Sto) (vs : List V) (ds : List D) (k : D → Sto → Prop) (Q : VK),
  StOk X R H sto → RepTs X R H vs ds → Out W' (g ds sto) k → (∀ d s', k d s' → ∀ v H' R', Grow R H R' H' → StOk X R' H' s' → Rep X R' v d → Q v H') → r vs H Q
section
variable {X : Sx} {W : WD} {C : Cx} {e : Expr} {es : List Expr} {fs : Env → M (List D)} {x : Str} {p pos : Pos} {id T : String} {r : List V → Hp → VK → Prop} {g : List D → M D}
theorem dx_fn (hc : CallR C (.builtin id) r) (hr : FnR X r g) (hg : Gl C x) (hm : C.mg x = none) (hv : bootBuiltins x = some (.builtin id)) (ha : PA C (e :: es) (tTs X W fs)) (hn : x ≠ "__name__") (hdb : (x == ("__debug__" : Str)) = false)
    (he : starEach (e :: es) C.env = (false, eval e C.env) :: starEach es C.env) (hpl : (backTo pos (starEach es C.env)).any (·.1) = false) : PE C (.Call (.Name x p) (e :: es) [] pos) (tD X W fun env => (fs env).bind g) := by
  refine (pe_callB hc hg hm hv ha hn hdb he hpl).weak fun σ H Q ⟨R, env, sto, S, E, o⟩ => ?_
  refine useTs S E o fun vs H1 R1 ds s1 g1 S1 E1 r1 o1 => ?_
  exact hr _ R1 H1 s1 vs ds _ Q S1 r1 o1 fun d s' q v H' R' g' S' r' => q v H' R' (g1.trans g') S' r'
theorem dx_ty (hc : CallR C (.type T) r) (hr : FnR X r g) (hg : Gl C x) (hm : C.mg x = none) (hv : bootBuiltins x = some (.type T)) (ha : PA C (e :: es) (tTs X W fs)) (hn : x ≠ "__name__") (hdb : (x == ("__debug__" : Str)) = false)
    (he : starEach (e :: es) C.env = (false, eval e C.env) :: starEach es C.env) (hpl : (backTo pos (starEach es C.env)).any (·.1) = false) : PE C (.Call (.Name x p) (e :: es) [] pos) (tD X W fun env => (fs env).bind g) := by
  refine (pe_callTy hc hg hm hv ha hn hdb he hpl).weak fun σ H Q ⟨R, env, sto, S, E, o⟩ => ?_
  refine useTs S E o fun vs H1 R1 ds s1 g1 S1 E1 r1 o1 => ?_
  exact hr _ R1 H1 s1 vs ds _ Q S1 r1 o1 fun d s' q v H' R' g' S' r' => q v H' R' (g1.trans g') S' r'
end
section
variable {X : Sx}
theorem b_len : FnR X (fun xs H Q => ∃ x n, xs = [x] ∧ LenV X.K x H n ∧ Q (.int n) H) bLen := by
  intro W' R H sto vs ds k Q S r o q
  unfold bLen at o
  split at o
  · obtain ⟨v, rfl, rv⟩ := r.one
    split at o
    · rename_i h
      rw [rv.str]
      exact ⟨_, _, rfl, ⟨by rw [sizeLine_eq]; exact h, rfl⟩, got S (.int _) (q _ _ (Out.pure o))⟩
    · exact o.elim
  · obtain ⟨v, rfl, rv⟩ := r.one
    obtain ⟨xs, h, o⟩ := o.ofOptB
    obtain ⟨a, ws, rfl, hs, rs⟩ := rv.seq S h
    refine ⟨_, ws.length, rfl, ?_, ?_⟩
    · rcases hs with hs | hs
      · exact .inl ⟨ws, hs, rfl⟩
      · exact .inr ⟨ws, hs, rfl⟩
    · rw [rs.length]; exact got S (.int _) (q _ _ (Out.pure o))
  · exact o.elim
theorem b_abs : FnR X (fun xs H Q => ∃ i, xs = [.int i] ∧ Q (.int (if i < 0 then -i else i)) H) bAbs := by
  intro W' R H sto vs ds k Q S r o q
  unfold bAbs at o
  split at o
  · obtain ⟨v, rfl, rv⟩ := r.one
    rw [rv.int]
    exact ⟨_, rfl, got S (.int _) (q _ _ (Out.pure o))⟩
  · exact o.elim
theorem b_min : FnR X (fun xs H Q => ∃ i j, xs = [.int i, .int j] ∧ Q (.int (if j < i then j else i)) H) bMin := by
  intro W' R H sto vs ds k Q S r o q
  unfold bMin at o
  split at o
  · obtain ⟨v, w, rfl, rv, rw'⟩ := r.two
    rw [rv.int, rw'.int]
    exact ⟨_, _, rfl, got S (.int _) (q _ _ (Out.pure o))⟩
  · exact o.elim
theorem b_max : FnR X (fun xs H Q => ∃ i j, xs = [.int i, .int j] ∧ Q (.int (if j > i then j else i)) H) bMax := by
  intro W' R H sto vs ds k Q S r o q
  unfold bMax at o
  split at o
  · obtain ⟨v, w, rfl, rv, rw'⟩ := r.two
    rw [rv.int, rw'.int]
    exact ⟨_, _, rfl, got S (.int _) (q _ _ (Out.pure o))⟩
  · exact o.elim
theorem b_int : FnR X (fun xs H Q => (∃ i, xs = [.int i] ∧ Q (.int i) H) ∨ ∃ k, xs = [.bl k] ∧ Q (.int (if k then 1 else 0)) H) bInt := by
  intro W' R H sto vs ds k Q S r o q
  unfold bInt at o
  split at o
  · obtain ⟨v, rfl, rv⟩ := r.one
    rw [rv.int]
    exact .inl ⟨_, rfl, got S (.int _) (q _ _ (Out.pure o))⟩
  · obtain ⟨v, rfl, rv⟩ := r.one
    rw [rv.bl]
    exact .inr ⟨_, rfl, got S (.int _) (q _ _ (Out.pure o))⟩
  · exact o.elim
theorem b_bool : FnR X (fun xs H Q => (∃ i, xs = [.int i] ∧ Q (.bl (i != 0)) H) ∨ ∃ k, xs = [.bl k] ∧ Q (.bl k) H) bBool := by
  intro W' R H sto vs ds k Q S r o q
  unfold bBool at o
  split at o
  · obtain ⟨v, rfl, rv⟩ := r.one
    rw [rv.int]
    exact .inl ⟨_, rfl, got S (.bl _) (q _ _ (Out.pure o))⟩
  · obtain ⟨v, rfl, rv⟩ := r.one
    rw [rv.bl]
    exact .inr ⟨_, rfl, got S (.bl _) (q _ _ (Out.pure o))⟩
  · exact o.elim
theorem b_sum : FnR X (rSum X.K) bSum := by
  intro W' R H sto vs ds k Q S r o q
  unfold bSum at o
  split at o
  · obtain ⟨v, rfl, rv⟩ := r.one
    obtain ⟨ns, h, o⟩ := o.ofOptB
    obtain ⟨a, ws, rfl, hs, rs⟩ := rv.lst S
    rw [rs.ints h] at hs
    exact ⟨a, ns, rfl, .of hs, got S (.int _) (q _ _ (Out.pure o))⟩
  · exact o.elim
theorem b_any : FnR X (rAny X.K) bAny := by
  intro W' R H sto vs ds k Q S r o q
  unfold bAny at o
  split at o
  · obtain ⟨v, rfl, rv⟩ := r.one
    obtain ⟨ns, h, o⟩ := o.ofOptB
    obtain ⟨a, ws, rfl, hs, rs⟩ := rv.lst S
    rw [rs.bls h] at hs
    exact ⟨a, ns, rfl, .of hs, got S (.bl _) (q _ _ (Out.pure o))⟩
  · exact o.elim
theorem b_all : FnR X (rAll X.K) bAll := by
  intro W' R H sto vs ds k Q S r o q
  unfold bAll at o
  split at o
  · obtain ⟨v, rfl, rv⟩ := r.one
    obtain ⟨ns, h, o⟩ := o.ofOptB
    obtain ⟨a, ws, rfl, hs, rs⟩ := rv.lst S
    rw [rs.bls h] at hs
    exact ⟨a, ns, rfl, .of hs, got S (.bl _) (q _ _ (Out.pure o))⟩
  · exact o.elim
theorem b_tuple : FnR X (fun xs H Q => ∃ p ys, xs = [.ref p] ∧ ((SqL X.K H p ys ∧ ∀ l, H l = none → Q (.ref l) (upd H l (.tup ys))) ∨ (SqT X.K H p ys ∧ Q (.ref p) H))) bTuple := by
  intro W' R H sto vs ds k Q S r o q
  unfold bTuple at o
  split at o
  · obtain ⟨v, rfl, rv⟩ := r.one
    rename_i d
    obtain ⟨xs, h, o⟩ := o.ofOptB
    have q := q _ _ (Out.pure o)
    cases d <;> simp only [asSeq] at h <;> cases h
    · rcases rv with rv | ⟨_, _, _, z, _⟩
      · cases rv with | tup e rs => exact ⟨_, _, rfl, .inr ⟨(.inl (.inl (S.fz _ _ e))), got S (.tup e rs) q⟩⟩
      · cases z
    · obtain ⟨a, ws, rfl, hs, rs⟩ := rv.lst S
      exact ⟨a, ws, rfl, .inl ⟨.of hs, fun l hl => new_val S hl (fun R' le e => .tup e (Reps.mono le _ rs)) q⟩⟩
    · obtain ⟨a, ws, rfl, hs, rs⟩ := rv.ro S
      exact ⟨a, ws, rfl, .inl ⟨hs, fun l hl => new_val S hl (fun R' le e => .tup e (Reps.mono le _ rs)) q⟩⟩
  · exact o.elim
theorem b_list : FnR X (fun xs H Q => ∃ p ys, xs = [.ref p] ∧ (SqL X.K H p ys ∨ SqT X.K H p ys) ∧ ∀ l, H l = none → Q (.ref l) (upd H l (.lst ys))) bList := by
  intro W' R H sto vs ds k Q S r o q
  unfold bList at o
  split at o
  · obtain ⟨v, rfl, rv⟩ := r.one
    obtain ⟨xs, h, o⟩ := o.ofOptB
    obtain ⟨a, ws, rfl, hs, rs⟩ := rv.seq S h
    exact ⟨a, ws, rfl, hs, fun l hl => new_val S hl (fun R' le e => .lst e (Reps.mono le _ rs)) (q _ _ (Out.pure o))⟩
  · exact o.elim
abbrev rSort2 (K : PySem.W.Frag) : List V → Hp → VK → Prop := fun vs H Q => rSortedI K vs H Q ∨ rSortedS K vs H Q
theorem cr_sort2 {C : Cx} : CallR C (.builtin "sorted") (rSort2 C.K) := cr_sortedI.or cr_sortedS
theorem Reps.of_strs {R : Rl} (ns : List Str) : Reps X R (ns.map V.str) (ns.map D.str) := by
  induction ns with
  | nil => exact .nil
  | cons n ns ih => exact .cons (.str n) ih
theorem b_sorted : FnR X (rSort2 X.K) bSorted := by
  intro W' R H sto vs ds k Q S r o q
  unfold bSorted at o
  split at o
  · obtain ⟨v, rfl, rv⟩ := r.one
    obtain ⟨a, ws, rfl, hs, rs⟩ := rv.lst S
    obtain ⟨ys, h, o⟩ := o.ofOptB
    have q := q _ _ (Out.pure o)
    unfold sortD at h
    split at h
    · rename_i ns h2
      cases h
      rw [rs.ints h2] at hs
      refine .inl ⟨a, ns, rfl, .of hs, fun ns' p h1 h2 hp => ?_⟩
      rw [sortI_uniq h1 h2]
      exact new_val S hp (fun R' le e => .lst e (Reps.of_ints _)) q
    · split at h
      · rename_i ns h2
        split at h
        · rename_i hl
          cases h
          rw [rs.strs h2] at hs
          refine .inr ⟨a, ns, rfl, .of hs, hl, fun ns' p h1 h2 hp => ?_⟩
          rw [sortS_uniq h1 h2]
          exact new_val S hp (fun R' le e => .lst e (Reps.of_strs _)) q
        · cases h
      · cases h
  · exact o.elim
abbrev rStr2 : List V → Hp → VK → Prop := fun xs H Q => (∃ i : Int, xs = [.int i] ∧ i.natAbs.log2 < 1920 ∧ Q (.str (toString i)) H) ∨ ∃ a, xs = [.str a] ∧ Q (.str a) H
theorem b_str : FnR X rStr2 bStr := by
  intro W' R H sto vs ds k Q S r o q
  unfold bStr at o
  split at o
  · obtain ⟨v, rfl, rv⟩ := r.one
    rw [rv.int]
    split at o
    · rename_i h
      exact .inl ⟨_, rfl, h, got S (.str _) (q _ _ (Out.pure o))⟩
    · exact o.elim
  · obtain ⟨v, rfl, rv⟩ := r.one
    rw [rv.str]
    exact .inr ⟨_, rfl, got S (.str _) (q _ _ (Out.pure o))⟩
  · exact o.elim
theorem b_divmod : FnR X (fun xs H Q => ∃ i j, xs = [.int i, .int j] ∧ CDivP i j ∧ ∀ p, H p = none → Q (.ref p) (upd H p (.tup [.int (i / j), .int (i % j)]))) bDivmod := by
  intro W' R H sto vs ds k Q S r o q
  unfold bDivmod at o
  split at o
  · obtain ⟨v, w, rfl, rv, rw'⟩ := r.two
    rw [rv.int, rw'.int]
    split at o
    · rename_i h
      refine ⟨_, _, rfl, pyDiv_ok h, fun p hp => ?_⟩
      exact new_val S hp (fun R' le e => .tup e (.cons (.int _) (.cons (.int _) .nil))) (q _ _ (Out.pure o))
    · exact o.elim
  · exact o.elim
end

/-! ### isinstance -/
section
variable {X : Sx} {W : WD} {C : Cx}
def tyN : D → Option String
  | .non => some "NoneType"
  | .bl _ => some "bool"
  | .int _ => some "int"
  | .str _ => some "str"
  | .tup _ => some "tuple"
  | .lst _ _ => some "list"
  | _ => none
def Ty.name : Ty → String
  | .int => "int"
  | .bool => "bool"
  | .str => "str"
  | .tuple => "tuple"
  | .list => "list"
  | .dict => "dict"
  | .cls _ => "object"
theorem ty_x {R : Rl} {H : Hp} {sto : Sto} {v : V} {d : D} {n : String} (S : StOk X R H sto) (r : RepT X R H v d) (e : tyN d = some n) : TyX X.K H v (.type n) := by
  cases d with
  | non => cases e; rw [r.non]; exact .base .non
  | bl b => cases e; rw [r.bl]; exact .base (.bl _)
  | int i => cases e; rw [r.int]; exact .base (.int _)
  | str x => cases e; rw [r.str]; exact .base (.str _)
  | tup xs =>
    cases e
    obtain ⟨a, vs, rfl, h, _⟩ := r.tup S
    rcases h with (h | ⟨o, h⟩) | ⟨o, _, _, h, hc, _⟩
    · exact .base (.tup h)
    · exact .fTuple h
    · exact .kTuple h hc
  | lst b xs =>
    cases e
    obtain ⟨a, vs, rfl, h, _⟩ := r.lst S
    exact .base (.lst h)
  | _ => cases e
theorem isi_tab {d : D} {t : Ty} {n : String} {b : Bool} (e : tyN d = some n) (h : isiD d t = some b) (ht : ∀ c, t ≠ .cls c) : kitB n t.name = some b := by
  cases d <;> cases e <;> cases t <;> first
    | exact absurd rfl (ht _)
    | (cases h; decide +kernel)
end
end Bc

set_option linter.all false
set_option autoImplicit false
set_option maxRecDepth 100000
set_option maxHeartbeats 1000000
namespace Bc
open PySem PySem.Spec L2

section
variable {X : Sx} {W : WD} {C : Cx} {a b c : Expr} {fa fb fc : Env → M D} {pos : Pos}
/-! ### subscripts, slices -/
theorem at_reps {R : Rl} {vs : List V} {ds : List D} {i : Int} {d : D} (r : Reps X R vs ds) (e : atI ds i = some d) : ∃ v, atI vs i = some v ∧ Rep X R v d := by
  unfold atI at e ⊢
  rw [r.length]
  cases h : ixN ds.length i with
  | none => rw [h] at e; cases e
  | some j =>
    rw [h] at e
    exact r.get e
theorem dx_sub (hK : X.K = C.K) (ha : PE C a (tT X W fa)) (hb : PE C b (tT X W fb)) (hs : PlainIx b) :
    PE C (.Subscript a b pos) (tD X W fun env => (fa env).bind fun x => (fb env).bind fun y => subD x y) := by
  refine (pe_ix ix_seq ha hb hs).weak fun σ H Q ⟨R, env, sto, S, E, o⟩ => ?_
  refine useT S E o fun v H1 R1 d s1 g1 S1 E1 r1 o1 => ?_
  have o1 : Out (wE X W R1 H1 σ) (((fb env).bind fun y => subD d y) s1) _ := o1.imp (fun _ _ q => q) (wE_on g1)
  refine useT S1 E1 o1 fun v2 H2 R2 d2 s2 g2 S2 E2 r2 o2 => ?_
  have r1 := r1.grow g2
  have fin : ∀ (z : D) (w : V), Rep X R2 w z → (∀ v H' R', Grow R H R' H' → StOk X R' H' s2 → Rep X R' v z → Q v H') → Q w H2 := fun z w rz q => q w H2 R2 (g1.trans g2) S2 rz
  unfold subD at o2
  split at o2
  · have e1 := r1.str
    have e2 := r2.int
    rw [e1, e2]
    split at o2
    · rename_i hl
      obtain ⟨d, e, q⟩ := o2.ofOpt
      obtain ⟨ch, e1, rfl⟩ := Option.map_eq_some_iff.mp e
      exact .inr (.inr ⟨_, _, ch, rfl, rfl, by rw [sizeLine_eq]; exact hl, e1, fin _ _ (.str _) q⟩)
    · exact o2.elim
  · obtain ⟨d, e, q⟩ := o2.ofOpt
    obtain ⟨p, vs, rfl, h, rs⟩ := r1.tup S2
    obtain ⟨w, e1, rw'⟩ := at_reps rs e
    rw [r2.int]
    exact .inr (.inl ⟨p, vs, _, w, rfl, rfl, hK ▸ h, e1, fin _ _ rw' q⟩)
  · obtain ⟨d, e, q⟩ := o2.ofOpt
    obtain ⟨p, vs, rfl, h, rs⟩ := r1.lst S2
    obtain ⟨w, e1, rw'⟩ := at_reps rs e
    rw [r2.int]
    exact .inl ⟨p, vs, _, w, rfl, rfl, .of h, e1, fin _ _ rw' q⟩
  · obtain ⟨d, e, q⟩ := o2.ofOpt
    obtain ⟨p, vs, rfl, h, rs⟩ := r1.ro S2
    obtain ⟨w, e1, rw'⟩ := at_reps rs e
    rw [r2.int]
    exact .inl ⟨p, vs, _, w, rfl, rfl, hK ▸ h, e1, fin _ _ rw' q⟩
  · obtain ⟨p, rfl, hp⟩ := r1.loc
    rw [r2.int]
    obtain ⟨d, e, q⟩ := Out.ofOpt o2
    obtain ⟨xs, hxs, hd⟩ := Option.bind_eq_some_iff.mp e
    obtain ⟨f, b, nb, vs, e, rs⟩ := S2.at_ _ p xs hp hxs
    obtain ⟨w, e1, rw'⟩ := at_reps rs hd
    refine .inl ⟨p, vs, _, w, rfl, rfl, .of e, e1, fin d w ?_ q⟩
    have le : RLe { R2 with Bz := fun _ => none } R2 := ⟨HLe.refl _, fun a o z => (by cases (show (none : Option HO) = some o from z)), fun _ _ z => z⟩
    exact rw'.mono le
  · exact o2.elim
/-- a slice's part -/
def tO (X : Sx) (W : WD) (f : Env → M (Option Int)) : TO := fun σ H Q => ∃ R env sto, StOk X R H sto ∧ EnvOk X R H σ env ∧ Out (wE X W R H σ) (f env sto) fun d s' => ∀ H' R', Grow R H R' H' → StOk X R' H' s' → Q d H'
theorem PO.weak {e : Option Expr} {t t' : TO} (h : PO C e t) (w : ∀ σ H Q, t' σ H Q → t σ H Q) : PO C e t' := ⟨fun pins s σ H Q I q => h.run pins s σ H Q I (w σ H Q q)⟩
theorem do_no : PO C none (tO X W fun _ => M.pure none) := PO.weak po_none fun σ H Q ⟨R, env, sto, S, E, o⟩ => o.pure H R (Grow.refl _ _) S
theorem do_ex (ha : PE C a (tT X W fa)) : PO C (some a) (tO X W fun env => (fa env).bind fun x => match x with
    | .int i => M.pure (some i)
    | _ => stuck) := by
  refine PO.weak (po_some ha) fun σ H Q ⟨R, env, sto, S, E, o⟩ => ?_
  refine useT S E o fun v H1 R1 d s1 g1 S1 E1 r1 o1 => ?_
  split at o1
  · rw [r1.int]; exact ⟨_, rfl, o1.pure H1 R1 g1 S1⟩
  · exact o1.elim
theorem useO {β : Type} {R : Rl} {H : Hp} {sto : Sto} {σ : L2.St} {env : Env} {f : Env → M (Option Int)} {g : Option Int → M β} {k : β → Sto → Prop} {Kx : Option Int → Hp → Prop} (S : StOk X R H sto) (E : EnvOk X R H σ env)
    (h : Out (wE X W R H σ) (((f env).bind g) sto) k)
    (hk : ∀ b H1 R1 s1, Grow R H R1 H1 → StOk X R1 H1 s1 → EnvOk X R1 H1 σ env → Out (wE X W R H σ) (g b s1) k → Kx b H1) : tO X W f σ H Kx :=
  ⟨R, env, sto, S, E, (Out.bind h).imp (fun d s q H' R' g' S' => hk d H' R' s g' S' (E.grow g') q) fun _ _ _ w => w⟩
theorem Reps.cut {R : Rl} {vs : List V} {ds : List D} (r : Reps X R vs ds) (lo hi : Option Int) : Reps X R (cutV vs lo hi) (cutD ds lo hi) := by
  unfold cutV cutD
  rw [r.length]
  exact (r.drop _).take _
theorem cut_whole {ds : List D} {lo hi : Option Int} (h : HT.sIx ds.length 0 lo = 0 ∧ HT.sIx ds.length ds.length hi = ds.length) : cutD ds lo hi = ds := by
  unfold cutD
  rw [h.1, h.2]
  simp
theorem dx_slice {lo hi : Option Expr} {fl fh : Env → M (Option Int)} {p2 : Pos} (hK : X.K = C.K) (ha : PE C a (tT X W fa)) (hl : PO C lo (tO X W fl)) (hh : PO C hi (tO X W fh)) :
    PE C (.Subscript a (.Slice lo hi none p2) pos) (tD X W fun env => (fa env).bind fun x => (fl env).bind fun l => (fh env).bind fun h => sliceD x l h) := by
  refine (pe_slice (sl_list.or sl_tupA) ha hl hh).weak fun σ H Q ⟨R, env, sto, S, E, o⟩ => ?_
  refine useT S E o fun v H1 R1 d s1 g1 S1 E1 r1 o1 => ?_
  have o1 : Out (wE X W R1 H1 σ) (((fl env).bind fun l => (fh env).bind fun h => sliceD d l h) s1) _ := o1.imp (fun _ _ q => q) (wE_on g1)
  refine useO S1 E1 o1 fun l H2 R2 s2 g2 S2 E2 o2 => ?_
  have o2 : Out (wE X W R2 H2 σ) (((fh env).bind fun h => sliceD d l h) s2) _ := o2.imp (fun _ _ q => q) (wE_on g2)
  refine useO S2 E2 o2 fun h H3 R3 s3 g3 S3 E3 o3 => ?_
  have g13 := (g1.trans g2).trans g3
  have r3 := r1.grow (g2.trans g3)
  unfold sliceD at o3
  split at o3
  · obtain ⟨p, vs, rfl, hp, rs⟩ := r3.tup S3
    have q := Out.pure o3
    refine .inr ⟨p, vs, rfl, hK ▸ hp, fun hw => ?_, fun hw p' hp' => ?_⟩
    · rw [rs.length] at hw
      rw [cut_whole hw] at q
      rcases r3 with r3 | ⟨_, _, _, z, _⟩
      · exact q _ H3 R3 g13 S3 r3
      · cases z
    · exact new_val S3 hp' (fun R' le e => .tup e (Reps.mono le _ (rs.cut _ _))) fun v H' R' g' S' r' => q v H' R' (g13.trans g') S' r'
  · obtain ⟨p, vs, rfl, hp, rs⟩ := r3.lst S3
    have q := Out.pure o3
    exact .inl ⟨p, vs, rfl, .of hp, fun p' hp' => new_val S3 hp' (fun R' le e => .lst e (Reps.mono le _ (rs.cut _ _))) fun v H' R' g' S' r' => q v H' R' (g13.trans g') S' r'⟩
  · obtain ⟨p, vs, rfl, hp, rs⟩ := r3.ro S3
    have q := Out.pure o3
    exact .inl ⟨p, vs, rfl, hK ▸ hp, fun p' hp' => new_val S3 hp' (fun R' le e => .lst e (Reps.mono le _ (rs.cut _ _))) fun v H' R' g' S' r' => q v H' R' (g13.trans g') S' r'⟩
  · exact o3.elim

/-! ### chains -/
theorem dx_cmp2 {o1 o2 : CmpOp} {r1 r2 : R2} {g1 g2 : D → D → M D} (h1 : OpR C (compareOp o1) r1) (h2 : OpR C (compareOp o2) r2) (k1 : Op2 X r1 g1) (k2 : Op2 X r2 g2)
    (ha : PE C a (tT X W fa)) (hb : PE C b (tT X W fb)) (hc : PE C c (tT X W fc)) (hm : lastMarks [o1, o2] [b, c] = false)
    (hbl : ∀ x y W' (sto : Sto) (k : D → Sto → Prop), Out W' (g1 x y sto) k → Out W' (g1 x y sto) fun d s => k d s ∧ ∃ b, d = .bl b) :
    PE C (.Compare a [o1, o2] [b, c] pos) (tD X W fun env => (fa env).bind fun x => (fb env).bind fun y => (g1 x y).bind fun r => match r with
      | .bl true => (fc env).bind fun z => g2 y z
      | .bl false => M.pure (.bl false)
      | _ => stuck) := by
  refine (pe_chain h1 h2 ha hb hc hm).weak fun σ H Q ⟨R, env, sto, S, E, o⟩ => ?_
  refine useT S E o fun v H1 R1 d s1 g1' S1 E1 r1' o1 => ?_
  have o1 : Out (wE X W R1 H1 σ) (((fb env).bind fun y => (g1 d y).bind fun r => match r with
      | .bl true => (fc env).bind fun z => g2 y z
      | .bl false => M.pure (.bl false)
      | _ => stuck) s1) _ := o1.imp (fun _ _ q => q) (wE_on g1')
  refine useT S1 E1 o1 fun v2 H2 R2 d2 s2 g2' S2 E2 r2' o2 => ?_
  refine k1 _ R2 H2 s2 v v2 d d2 _ _ S2 (r1'.grow g2') r2' (hbl _ _ _ _ _ (Out.bind o2)) fun dr s3 q v3 H3 R3 g3 S3 r3 => ?_
  obtain ⟨q, bb, rfl⟩ := q
  cases r3
  refine ⟨bb, rfl, ?_⟩
  have gg := (g1'.trans g2').trans g3
  cases bb with
  | false => rw [if_neg Bool.false_ne_true]; exact Out.pure (show Out _ (M.pure (D.bl false) s3) _ from q) (.bl false) H3 R3 gg S3 (.bl _)
  | true =>
    rw [if_pos rfl]
    have q : Out (wE X W R1 H1 σ) (((fc env).bind fun z => g2 d2 z) s3) _ := q
    have q : Out (wE X W R3 H3 σ) (((fc env).bind fun z => g2 d2 z) s3) _ := q.imp (fun _ _ q => q) (wE_on (g2'.trans g3))
    refine useT S3 (E2.grow g3) q fun v4 H4 R4 d4 s4 g4 S4 E4 r4 o4 => ?_
    exact k2 _ R4 H4 s4 v2 v4 d2 d4 _ Q S4 ((r2'.grow g3).grow g4) r4 o4 fun d' s' q v' H' R' g' S' r' => q v' H' R' ((gg.trans g4).trans g') S' r'
theorem dt_cmp2 {o1 o2 : CmpOp} {r1 r2 : R2} {g1 g2 : D → D → M D} (h1 : OpR C (compareOp o1) r1) (h2 : OpR C (compareOp o2) r2) (k1 : Op2 X r1 g1) (k2 : Op2 X r2 g2)
    (ha : PE C a (tT X W fa)) (hb : PE C b (tT X W fb)) (hc : PE C c (tT X W fc)) (hm : lastMarks [o1, o2] [b, c] = false)
    (hbl : ∀ x y W' (sto : Sto) (k : D → Sto → Prop), Out W' (g1 x y sto) k → Out W' (g1 x y sto) fun d s => k d s ∧ ∃ b, d = .bl b)
    (hbl2 : ∀ x y W' (sto : Sto) (k : D → Sto → Prop), Out W' (g2 x y sto) k → Out W' (g2 x y sto) fun d s => k d s ∧ ∃ b, d = .bl b) :
    PT C (.Compare a [o1, o2] [b, c] pos) (tB X W fun env => ((fa env).bind fun x => (fb env).bind fun y => (g1 x y).bind fun r => match r with
      | .bl true => (fc env).bind fun z => g2 y z
      | .bl false => M.pure (.bl false)
      | _ => stuck).bind truM) := by
  refine (pt_chain h1 h2 ha hb hc hm).weak fun σ H Q ⟨R, env, sto, S, E, o⟩ => ?_
  have o := Out.bind o
  refine useT S E o fun v H1 R1 d s1 g1' S1 E1 r1' o1 => ?_
  have o1 : Out (wE X W R1 H1 σ) (((fb env).bind fun y => (g1 d y).bind fun r => match r with
      | .bl true => (fc env).bind fun z => g2 y z
      | .bl false => M.pure (.bl false)
      | _ => stuck) s1) _ := o1.imp (fun _ _ q => q) (wE_on g1')
  refine useT S1 E1 o1 fun v2 H2 R2 d2 s2 g2' S2 E2 r2' o2 => ?_
  refine k1 _ R2 H2 s2 v v2 d d2 _ _ S2 (r1'.grow g2') r2' (hbl _ _ _ _ _ (Out.bind o2)) fun dr s3 q v3 H3 R3 g3 S3 r3 => ?_
  obtain ⟨q, bb, rfl⟩ := q
  cases r3
  refine ⟨bb, rfl, ?_⟩
  have gg := (g1'.trans g2').trans g3
  cases bb with
  | false =>
    rw [if_neg Bool.false_ne_true]
    have q2 := Out.pure (show Out _ (M.pure (D.bl false) s3) _ from q)
    exact ⟨false, rfl, Out.pure (show Out _ (M.pure false s3) _ from q2) H3 R3 gg S3⟩
  | true =>
    rw [if_pos rfl]
    have q : Out (wE X W R1 H1 σ) (((fc env).bind fun z => g2 d2 z) s3) _ := q
    have q : Out (wE X W R3 H3 σ) (((fc env).bind fun z => g2 d2 z) s3) _ := q.imp (fun _ _ q => q) (wE_on (g2'.trans g3))
    refine useT S3 (E2.grow g3) q fun v4 H4 R4 d4 s4 g4 S4 E4 r4 o4 => ?_
    refine k2 _ R4 H4 s4 v2 v4 d2 d4 _ _ S4 ((r2'.grow g3).grow g4) r4 (hbl2 _ _ _ _ _ o4) fun d' s' q v' H' R' g' S' r' => ?_
    obtain ⟨q, bb, rfl⟩ := q
    cases r'
    exact ⟨bb, rfl, Out.pure (show Out _ (M.pure bb s') _ from q) H' R' ((gg.trans g4).trans g') S'⟩
/-! ### isinstance -/
theorem isi_one (hK : X.K = C.K) {T : Ty} {x y : Str} {p pos p2 : Pos} (hg : Gl C x) (hm : C.mg x = none) (hx : x = "isinstance") (hg2 : Gl C y) (hm2 : C.mg y = none) (hy : bootBuiltins y = some (.type T.name)) (hn2 : y ≠ "__name__") (hdb2 : (y == ("__debug__" : Str)) = false) (hT : ∀ c, T ≠ .cls c)
    (ha : PE C a (tT X W fa)) (he : starEach [a, .Name y p2] C.env = (false, eval a C.env) :: starEach [.Name y p2] C.env) :
    PE C (.Call (.Name x p) [a, .Name y p2] [] pos) (tD X W fun env => (fa env).bind fun v => (ofOpt (isiDs v [T])).bind fun b => M.pure (.bl b)) := by
  subst hx
  have hb : PE C (.Name y p2) (tC (.ty T.name)) := pe_bltn hg2 hm2 hy rfl hn2 hdb2
  refine (pe_callB call_isi hg hm PyProof.Rows.boot_isinstance (pa_cons ha (pa_cons hb pa_nil rfl) he) (by decide) (by decide) he rfl).weak fun σ H Q ⟨R, env, sto, S, E, o⟩ => ?_
  refine useT S E o fun v H1 R1 d s1 g1 S1 E1 r1 o1 => ?_
  obtain ⟨bb, e, o2⟩ := o1.ofOptB
  have e2 : isiD d T = some bb := by
    unfold isiDs at e
    split at e
    · rename_i h; cases e; exact h
    · rename_i h; simp only [isiDs] at e; cases e; exact h
    · cases e
  have ⟨n, hn⟩ : ∃ n, tyN d = some n := by
    cases d <;> first | exact ⟨_, rfl⟩ | (cases T <;> first | (cases e2; done) | exact absurd rfl (hT _) | skip)
  exact ⟨v, .ty T.name, .type n, .type T.name, bb, rfl, .ty _, hK ▸ ty_x S1 r1 hn, kit_ty (isi_tab hn e2 hT), o2.pure (.bl bb) H1 R1 g1 S1 (.bl _)⟩
/-! ### methods of built-in values -/
theorem dx_bits {apos : Pos} (ha : PE C a (tT X W fa)) (hbase : attributeBase a "bit_length" C.env (eval a C.env) = eval a C.env) (hline : (apos.endLine == pos.line) = true) :
    PE C (.Call (.Attribute a "bit_length" apos) [] [] pos) (tD X W fun env => (fa env).bind fun x => mBits x []) := by
  refine (pe_bits ha hbase hline).weak fun σ H Q ⟨R, env, sto, S, E, o⟩ => ?_
  refine useT S E o fun v H1 R1 d s1 g1 S1 E1 r1 o1 => ?_
  cases d <;> try exact o1.elim
  rw [r1.int]; exact ⟨_, rfl, Out.pure o1 (.int _) H1 R1 g1 S1 (.int _)⟩
end
end Bc

set_option linter.all false
set_option autoImplicit false
set_option maxRecDepth 100000
set_option maxHeartbeats 1000000
namespace Bc
open PySem PySem.Spec L2

/-- an exception in the air: its class, its own dict -/
def ExcAt (X : Sx) (R : Rl) (c : Nat) (fs : List (Nat × D)) (cls : Value) (d : Option Addr) : Prop := cls = X.xc c ∧ (fs = [] ∨ ∃ a vs, d = some a ∧ R.Fz a = some (.xd vs) ∧ Repf X R vs fs)
def wX (X : Sx) (Wx : L2.WX) : WD := fun c fs s σ H R => ∀ cls d, ExcAt X R c fs cls d → Wx cls d σ H
/-- what a def promises -/
def spF (X : Sx) (g : List D → M D) : Sp := fun vs H Q E => ∃ R sto ds, StOk X R H sto ∧ Reps X R vs ds ∧
  Out (fun c fs s => ∀ H' R', Grow R H R' H' → StOk X R' H' s → ∀ cls d, ExcAt X R' c fs cls d → E cls d H') (g ds sto) fun d s' => ∀ v H' R', Grow R H R' H' → StOk X R' H' s' → Rep X R' v d → Q v H'

section
variable {X : Sx} {C : Cx} {Wx : L2.WX} {W : WD} {k n : Nat} {f : Addr} {fd : FuncData} {ps : List Str} {g : List D → M D} {x : Str} {p pos : Pos} {e : Expr} {es : List Expr} {fs : Env → M (List D)}
theorem call_read (hW : ∀ c fs s σ H R, W c fs s σ H R → wX X Wx c fs s σ H R) {σ : L2.St} {H : Hp} {Q : VK} (h : tD X W (fun env => (fs env).bind g) σ H Q) : tCallS (spF X g) (WE Wx) (tDs X W fs) σ H Q := by
  obtain ⟨R, env, sto, S, E, o⟩ := h
  refine useDs S E o fun vs H1 R1 ds s1 g1 S1 E1 r1 o1 => ⟨R1, s1, ds, S1, r1, o1.imp (fun d s' q v H' R' g' S' r' => q v H' R' (g1.trans g') S' r') fun c fs s w H' R' g' S' => hW _ _ _ _ _ _ (w H' R' (g1.trans g') S')⟩
theorem dx_call (F : FnOk C.prog C.w C.K C.mg C.base (L2.CX C.prog C.w) k f fd ps (spF X g)) (hr : Room k C.A) (hg : Gl C x) (hm : C.mg x = some (.ref f)) (hk : PySem.W.keepIn C.K (.ref f) = true) (hb : Binds C.K fd ps []) (tk : Takes C Wx) (hW : ∀ c fs s σ H R, W c fs s σ H R → wX X Wx c fs s σ H R)
    (ha : PA C (e :: es) (tDs X W fs)) (hdb : (x == ("__debug__" : Str)) = false) (he : starEach (e :: es) C.env = (false, eval e C.env) :: starEach es C.env) (hpl : (backTo pos (starEach es C.env)).any (·.1) = false) :
    PE C (.Call (.Name x p) (e :: es) [] pos) (tD X W fun env => (fs env).bind g) :=
  (pe_callS F hr hg hm hk hb (fun σ => passAt tk σ) ha hdb he hpl).weak fun σ H Q h => call_read hW h

/-! ### arguments that are lent -/
def lend (R : Rl) (H : Hp) : Rl := { R with Bz := fun a => if a ∈ R.mu then none else H a }
theorem lend_le {R : Rl} {H : Hp} {sto : Sto} (S : StOk X R H sto) : RLe R (lend R H) := by
  refine ⟨HLe.refl _, fun a o e => ?_, fun _ _ e => e⟩
  show (if a ∈ R.mu then none else H a) = some o
  rw [if_neg, S.bz a o e]
  intro m
  rw [(S.notmu m).2] at e; cases e
theorem lend_st {R : Rl} {H : Hp} {sto : Sto} (S : StOk X R H sto) : StOk X (lend R H) H sto := by
  refine ⟨S.fz, fun a o e => ?_, S.len, S.nd, fun n a ds e1 e2 => ?_⟩
  · have e : (if a ∈ R.mu then none else H a) = some o := e
    split at e
    · cases e
    · exact e
  · obtain ⟨h1, h2, h3, h4⟩ := S.at_ n a ds e1 e2
    exact ⟨h1, if_pos (List.mem_of_getElem? e1), h3, h4⟩
theorem lend_rep {R : Rl} {H : Hp} {sto : Sto} {v : V} {d : D} (S : StOk X R H sto) (r : RepT X R H v d) : Rep X (lend R H) v d := by
  rcases r with r | ⟨a, vs, ds, rfl, rfl, e, m, r⟩
  · exact r.mono (lend_le S)
  · refine .bor ?_ (Reps.mono (lend_le S) _ r)
    show (if a ∈ R.mu then none else H a) = _
    rw [if_neg m, e]
theorem lend_reps {R : Rl} {H : Hp} {sto : Sto} (S : StOk X R H sto) : ∀ {vs : List V} {ds : List D}, RepTs X R H vs ds → Reps X (lend R H) vs ds
  | _, _, .nil => .nil
  | _, _, .cons r t => .cons (lend_rep S r) (lend_reps S t)
theorem lend_back {R R' : Rl} {H H' : Hp} {sto s' : Sto} (S : StOk X R H sto) (g : Grow (lend R H) H R' H') (S' : StOk X R' H' s') :
    Grow R H { R' with Bz := R.Bz } H' ∧ StOk X { R' with Bz := R.Bz } H' s' := by
  have bn : ∀ a, a ∈ R'.mu → R.Bz a = none := fun a m => by
    rcases g.muN a m with z | z
    · exact (S.notmu z).2
    · cases q : R.Bz a with
      | none => rfl
      | some o => rw [S.bz a o q] at z; cases z
  refine ⟨⟨⟨g.le.fz, HLe.refl _, g.le.mu⟩, rfl, fun a o e m => g.kept a o e m, g.muN, g.there⟩, ⟨S'.fz, fun a o e => ?_, S'.len, S'.nd, fun n a ds e1 e2 => ?_⟩⟩
  · have m : a ∉ R.mu := fun z => by rw [(S.notmu z).2] at e; cases e
    exact (g.kept a o (S.bz a o e) m).1
  · obtain ⟨h1, h2, h3, h4⟩ := S'.at_ n a ds e1 e2
    exact ⟨h1, bn a (List.mem_of_getElem? e1), h3, h4⟩
theorem callB_read {σ : L2.St} {H : Hp} {Q : VK} (h : tD X W (fun env => (fs env).bind fun ds => (noX (g ds)).bind fun d => (need (nob d)).bind fun _ => M.pure d) σ H Q) : tCallS (spF X g) (WE Wx) (tTs X W fs) σ H Q := by
  obtain ⟨R, env, sto, S, E, o⟩ := h
  refine useTs S E o fun vs H1 R1 ds s1 g1 S1 E1 r1 o1 => ⟨lend R1 H1, s1, ds, lend_st S1, lend_reps S1 r1, (Out.noX (Out.bind o1)).imp (fun d s' q v H' R' g' S' r' => ?_) fun c fs s w => w⟩
  obtain ⟨nb, q⟩ := q.needB
  obtain ⟨g2, S2⟩ := lend_back S1 g' S'
  exact Out.pure q v H' _ (g1.trans g2) S2 (r'.nob R1.Bz d nb)
theorem dx_callB (F : FnOk C.prog C.w C.K C.mg C.base (L2.CX C.prog C.w) k f fd ps (spF X g)) (hr : Room k C.A) (hg : Gl C x) (hm : C.mg x = some (.ref f)) (hk : PySem.W.keepIn C.K (.ref f) = true) (hb : Binds C.K fd ps []) (tk : Takes C Wx) (hW : ∀ c fs s σ H R, W c fs s σ H R → wX X Wx c fs s σ H R)
    (ha : PA C (e :: es) (tTs X W fs)) (hdb : (x == ("__debug__" : Str)) = false) (he : starEach (e :: es) C.env = (false, eval e C.env) :: starEach es C.env) (hpl : (backTo pos (starEach es C.env)).any (·.1) = false) :
    PE C (.Call (.Name x p) (e :: es) [] pos) (tD X W fun env => (fs env).bind fun ds => (noX (g ds)).bind fun d => (need (nob d)).bind fun _ => M.pure d) :=
  (pe_callS F hr hg hm hk hb (fun σ => passAt tk σ) ha hdb he hpl).weak fun σ H Q h => callB_read h
end
end Bc

set_option linter.all false
set_option autoImplicit false
set_option maxRecDepth 100000
set_option maxHeartbeats 1000000
namespace Bc
open PySem PySem.Spec L2

/-! ### what an assignment leaves -/
mutual
def tvs : T → List Nat
  | .nm i => [i]
  | .tp ts => tvss ts
  | .sub _ _ => []
def tvss : Ts → List Nat
  | .nil => []
  | .cons t r => tvs t ++ tvss r
end
def NotOwn (env : Env) (i : Nat) : Prop := ∀ s, env[i]? = some s → isOwn s = false
theorem notOwn_set {env : Env} {i j : Nat} {d : D} (h : i = j ∨ NotOwn env j) : NotOwn (env.set i (.val d)) j := by
  intro s e
  by_cases q : i = j
  · subst q
    rw [List.getElem?_set] at e
    split at e
    · split at e
      · cases e; rfl
      · cases e
    · exact absurd rfl ‹¬ _›
  · rw [List.getElem?_set_ne q] at e
    exact (h.resolve_left q) s e
mutual
theorem asgT_own {cl : Cl} : ∀ {t : T} {d : D} {env : Env} {s : Sto} {env' : Env} {s' : Sto}, asgT cl t d env s = .ok (env', s') → ∀ i, (i ∈ tvs t ∨ NotOwn env i) → NotOwn env' i
  | .nm j, d, env, s, env', s', h, i, hi => by
    unfold asgT at h
    split at h
    · cases h
      refine notOwn_set ?_
      rcases hi with hi | hi
      · left; simp [tvs] at hi; exact hi.symm
      · exact .inr hi
    · cases h
  | .tp ts, d, env, s, env', s', h, i, hi => by
    unfold asgT at h
    split at h
    · exact asgTs_own h i hi
    · cases h
  | .sub a k, d, env, s, env', s', h, i, hi => by
    unfold asgT at h
    obtain ⟨x, s1, _, h⟩ := bind_ok h
    obtain ⟨y, s2, _, h⟩ := bind_ok h
    obtain ⟨z, s3, _, h⟩ := bind_ok h
    cases h
    rcases hi with hi | hi
    · simp [tvs] at hi
    · exact hi
theorem asgTs_own {cl : Cl} : ∀ {ts : Ts} {ds : List D} {env : Env} {s : Sto} {env' : Env} {s' : Sto}, asgTs cl ts ds env s = .ok (env', s') → ∀ i, (i ∈ tvss ts ∨ NotOwn env i) → NotOwn env' i
  | .nil, ds, env, s, env', s', h, i, hi => by
    unfold asgTs at h
    split at h
    · cases h
      rcases hi with hi | hi
      · simp [tvss] at hi
      · exact hi
    · cases h
  | .cons t r, ds, env, s, env', s', h, i, hi => by
    unfold asgTs at h
    split at h
    · obtain ⟨env1, s1, h1, h⟩ := bind_ok h
      refine asgTs_own h i ?_
      rcases hi with hi | hi
      · simp [tvss] at hi
        rcases hi with hi | hi
        · exact .inr (asgT_own h1 i (.inl hi))
        · exact .inl hi
      · exact .inr (asgT_own h1 i (.inr hi))
    · cases h
end
theorem noX_exc {α : Type} {m : M α} {s : Sto} {c fs s'} (h : noX m s = .exc c fs s') : False := by
  unfold noX at h
  split at h <;> cases h
theorem bind_exc {α β : Type} {m : M α} {f : α → M β} {s : Sto} {c fs s'} (h : (m.bind f) s = .exc c fs s') : m s = .exc c fs s' ∨ ∃ a s1, m s = .ok (a, s1) ∧ f a s1 = .exc c fs s' := by
  unfold M.bind at h
  cases e : m s with
  | ok p => rw [e] at h; exact .inr ⟨p.1, p.2, rfl, h⟩
  | exc _ _ _ => rw [e] at h; cases h; exact .inl rfl
  | stuck => rw [e] at h; cases h
theorem setSub_exc {x k v : D} {s : Sto} {c fs s'} (h : setSub x k v s = .exc c fs s') : False := by
  cases x <;> try (cases h; done)
  cases k <;> try (cases h; done)
  rename_i n i
  have h : (match s[n]? with
    | some xs => (match L2.ixN xs.length i with
      | some j => if nob v then R.ok ((), s.set n (xs.set j v)) else R.stuck
      | none => R.stuck)
    | none => R.stuck) = R.exc c fs s' := h
  split at h
  · split at h
    · split at h <;> cases h
    · cases h
  · cases h
mutual
theorem asgT_exc {cl : Cl} : ∀ {t : T} {d : D} {env : Env} {s : Sto} {c fs s'}, asgT cl t d env s = .exc c fs s' → False
  | .nm j, d, env, s, c, fs, s', h => by
    unfold asgT at h
    split at h <;> cases h
  | .tp ts, d, env, s, c, fs, s', h => by
    unfold asgT at h
    split at h
    · exact asgTs_exc h
    · cases h
  | .sub a k, d, env, s, c, fs, s', h => by
    unfold asgT at h
    rcases bind_exc h with h | ⟨x, s1, _, h⟩
    · exact noX_exc h
    rcases bind_exc h with h | ⟨y, s2, _, h⟩
    · exact noX_exc h
    rcases bind_exc h with h | ⟨z, s3, _, h⟩
    · exact setSub_exc h
    · cases h
theorem asgTs_exc {cl : Cl} : ∀ {ts : Ts} {ds : List D} {env : Env} {s : Sto} {c fs s'}, asgTs cl ts ds env s = .exc c fs s' → False
  | .nil, ds, env, s, c, fs, s', h => by
    unfold asgTs at h
    split at h <;> cases h
  | .cons t r, ds, env, s, c, fs, s', h => by
    unfold asgTs at h
    split at h
    · rcases bind_exc h with h | ⟨x, s1, _, h⟩
      · exact asgT_exc h
      · exact asgTs_exc h
    · cases h
end

/-! ### statements -/
def FreshOwn (H0 : Hp) (σ : L2.St) (env : Env) : Prop := ∀ (i : Nat) (s : Slot) (a : Addr), env[i]? = some s → isOwn s = true → σ[i]? = some (some (.ref a)) → H0 a = none
structure At (X : Sx) (R0 : Rl) (H0 : Hp) (R : Rl) (H : Hp) (sto : Sto) (σ : L2.St) (env : Env) : Prop where
  g : Grow R0 H0 R H
  S : StOk X R H sto
  E : EnvOk X R H σ env
  fr : FreshOwn H0 σ env
theorem At.grow {X : Sx} {R0 R R' : Rl} {H0 H H' : Hp} {sto s' : Sto} {σ : L2.St} {env : Env} (A : At X R0 H0 R H sto σ env) (g : Grow R H R' H') (S : StOk X R' H' s') : At X R0 H0 R' H' s' σ env :=
  ⟨A.g.trans g, S, A.E.grow g, A.fr⟩
def wS (X : Sx) (W : WD) (R0 : Rl) (H0 : Hp) (R : Rl) : Nat → List (Nat × D) → Sto → Prop := fun c fs s => ∀ σ H' R', Grow R0 H0 R' H' → RLe R R' → StOk X R' H' s → W c fs s σ H' R'
def endS (X : Sx) (R0 : Rl) (H0 : Hp) (R : Rl) (D : Ends) : Fl × Env → Sto → Prop
  | (.nx, env), s => ∀ σ H' R', At X R0 H0 R' H' s σ env → RLe R R' → D.nx σ H'
  | (.ct, env), s => ∀ σ H' R', At X R0 H0 R' H' s σ env → RLe R R' → D.ct σ H'
  | (.bk, env), s => ∀ σ H' R', At X R0 H0 R' H' s σ env → RLe R R' → D.bk σ H'
  | (.rt d, _), s => ∀ v H' R', Grow R0 H0 R' H' → RLe R R' → StOk X R' H' s → Rep X R' v d → D.rt v H'
def tS (X : Sx) (W : WD) (R0 : Rl) (H0 : Hp) (f : Env → M (Fl × Env)) : TS := fun D σ H => ∃ R env sto, At X R0 H0 R H sto σ env ∧ Out (wS X W R0 H0 R) (f env sto) (endS X R0 H0 R D)

section
variable {X : Sx} {W : WD} {C : Cx} {R0 R R1 : Rl} {H0 H H1 : Hp} {cl : Cl} {w : Nat} {De : Ends} {σ : L2.St} {env : Env} {sto s1 : Sto}
theorem wS_on (le : RLe R R1) : ∀ c fs s, wS X W R0 H0 R c fs s → wS X W R0 H0 R1 c fs s := fun _ _ _ k σ H' R' g le' S => k σ H' R' g (le.trans le') S
theorem wS_wE (g : Grow R0 H0 R H) : ∀ c fs s, wS X W R0 H0 R c fs s → wE X W R H σ c fs s := fun _ _ _ k H' R' g' S' => k σ H' R' (g.trans g') g'.le S'
theorem endS_on (le : RLe R R1) : ∀ (p : Fl × Env) s, endS X R0 H0 R De p s → endS X R0 H0 R1 De p s
  | (.nx, env), s, k => fun σ H' R' A le' => k σ H' R' A (le.trans le')
  | (.ct, env), s, k => fun σ H' R' A le' => k σ H' R' A (le.trans le')
  | (.bk, env), s, k => fun σ H' R' A le' => k σ H' R' A (le.trans le')
  | (.rt d, _), s, k => fun v H' R' g le' S r => k v H' R' g (le.trans le') S r
/-- a permanent value within a statement -/
theorem useSD {β : Type} {fa : Env → M D} {g : D → M β} {k : β → Sto → Prop} {Kx : VK} (A : At X R0 H0 R H sto σ env) (h : Out (wS X W R0 H0 R) (((fa env).bind g) sto) k)
    (hk : ∀ v H1 R1 d s1, Grow R H R1 H1 → At X R0 H0 R1 H1 s1 σ env → Rep X R1 v d → Out (wS X W R0 H0 R1) (g d s1) k → Kx v H1) : tD X W fa σ H Kx :=
  ⟨R, env, sto, A.S, A.E, (Out.bind h).imp (fun d s q v H' R' g' S' r => hk v H' R' d s g' (A.grow g' S') r (q.imp (fun _ _ z => z) (wS_on g'.le))) (wS_wE A.g)⟩
theorem useST {β : Type} {fa : Env → M D} {g : D → M β} {k : β → Sto → Prop} {Kx : VK} (A : At X R0 H0 R H sto σ env) (h : Out (wS X W R0 H0 R) (((fa env).bind g) sto) k)
    (hk : ∀ v H1 R1 d s1, Grow R H R1 H1 → At X R0 H0 R1 H1 s1 σ env → RepT X R1 H1 v d → Out (wS X W R0 H0 R1) (g d s1) k → Kx v H1) : tT X W fa σ H Kx :=
  ⟨R, env, sto, A.S, A.E, (Out.bind h).imp (fun d s q v H' R' g' S' r => hk v H' R' d s g' (A.grow g' S') r (q.imp (fun _ _ z => z) (wS_on g'.le))) (wS_wE A.g)⟩
theorem useSDs {β : Type} {fa : Env → M (List Bc.D)} {g : List Bc.D → M β} {k : β → Sto → Prop} {Kx : List V → Hp → Prop} (A : At X R0 H0 R H sto σ env) (h : Out (wS X W R0 H0 R) (((fa env).bind g) sto) k)
    (hk : ∀ v H1 R1 d s1, Grow R H R1 H1 → At X R0 H0 R1 H1 s1 σ env → Reps X R1 v d → Out (wS X W R0 H0 R1) (g d s1) k → Kx v H1) : tDs X W fa σ H Kx :=
  ⟨R, env, sto, A.S, A.E, (Out.bind h).imp (fun d s q v H' R' g' S' r => hk v H' R' d s g' (A.grow g' S') r (q.imp (fun _ _ z => z) (wS_on g'.le))) (wS_wE A.g)⟩
theorem useSB {β : Type} {fa : Env → M Bool} {g : Bool → M β} {k : β → Sto → Prop} {Kx : Bool → Hp → Prop} (A : At X R0 H0 R H sto σ env) (h : Out (wS X W R0 H0 R) (((fa env).bind g) sto) k)
    (hk : ∀ b H1 R1 s1, Grow R H R1 H1 → At X R0 H0 R1 H1 s1 σ env → Out (wS X W R0 H0 R1) (g b s1) k → Kx b H1) : tB X W fa σ H Kx :=
  ⟨R, env, sto, A.S, A.E, (Out.bind h).imp (fun d s q H' R' g' S' => hk d H' R' s g' (A.grow g' S') (q.imp (fun _ _ z => z) (wS_on g'.le))) (wS_wE A.g)⟩
theorem ret_val {d : Bc.D} {v : V} (A : At X R0 H0 R1 H1 s1 σ env) (le : RLe R R1) (r : Rep X R1 v d) {env' : Env} (o : endS X R0 H0 R De (.rt d, env') s1) : De.rt v H1 := o v H1 R1 A.g le A.S r

theorem dt_pass {pos : Pos} : PS C (.Pass pos) (tS X W R0 H0 (evS cl w .pass)) := ps_pass.weak fun De σ H ⟨R, env, sto, A, o⟩ => Out.pure o σ H R A (RLe.refl _)
theorem dt_brk {pos : Pos} : PS C (.Break pos) (tS X W R0 H0 (evS cl w .brk)) := ps_break.weak fun De σ H ⟨R, env, sto, A, o⟩ => Out.pure o σ H R A (RLe.refl _)
theorem dt_cont {pos : Pos} : PS C (.Continue pos) (tS X W R0 H0 (evS cl w .cont)) := ps_continue.weak fun De σ H ⟨R, env, sto, A, o⟩ => Out.pure o σ H R A (RLe.refl _)
theorem dt_retN {pos : Pos} : PS C (.Return none pos) (tS X W R0 H0 (evS cl w .retN)) := ps_retN.weak fun De σ H ⟨R, env, sto, A, o⟩ => Out.pure o .non H R A.g (RLe.refl _) A.S .non
theorem dt_ret {e : Expr} {f : E} {pos : Pos} (h : PE C e (tD X W (evE cl f))) : PS C (.Return (some e) pos) (tS X W R0 H0 (evS cl w (.ret f))) :=
  (ps_ret h).weak fun De σ H ⟨R, env, sto, A, o⟩ => useSD A (by unfold evS at o; exact o) fun v H1 R1 d s1 g1 A1 r1 o1 => ret_val A1 g1.le r1 (Out.pure o1)
theorem dt_expr {e : Expr} {f : E} {pos : Pos} (h : PE C e (tD X W (evE cl f))) (hs : swapsWith e none pos.line C.env = pure false) : PS C (.Expr e pos) (tS X W R0 H0 (evS cl w (.expr f))) :=
  (ps_expr h hs).weak fun De σ H ⟨R, env, sto, A, o⟩ => useSD (k := endS X R0 H0 R De) (g := fun _ => M.pure (Fl.nx, env)) A (by unfold evS at o; exact o) fun v H1 R1 d s1 g1 A1 r1 o1 => (show endS X R0 H0 R De (.nx, env) s1 from o1) σ H1 R1 A1 g1.le
theorem dt_doc {x : Str} {j : Nat} {pos pos' : Pos} : PS C (.Expr (.Constant (.str x) j pos) pos') (tS X W R0 H0 (evS cl w .pass)) := ps_doc.weak fun De σ H ⟨R, env, sto, A, o⟩ => Out.pure o σ H R A (RLe.refl _)
theorem At.asg {env' : Env} {σ' : L2.St} {R' : Rl} {H' : Hp} {s' : Sto} {ns : List Nat} (A : At X R0 H0 R H sto σ env) (g : Grow R H R' H') (S : StOk X R' H' s') (E : EnvOk X R' H' σ' env') (k1 : ∀ i, i ∉ ns → σ'[i]? = σ[i]?) (k2 : ∀ i, i ∉ ns → env'[i]? = env[i]?)
    (no : ∀ i, i ∈ ns → NotOwn env' i) : At X R0 H0 R' H' s' σ' env' := by
  refine ⟨A.g.trans g, S, E, fun i s a e1 e2 e3 => ?_⟩
  have hi : i ∉ ns := fun z => by rw [no i z s e1] at e2; cases e2
  rw [k2 i hi] at e1
  rw [k1 i hi] at e3
  exact A.fr i s a e1 e2 e3
/-- the store of an assignment -/
theorem asg_read {t : T} {d : Bc.D} {v : V} {k : Env → Sto → Prop} {Q : L2.St → Hp → Prop} (A : At X R0 H0 R H sto σ env) (r : Rep X R v d) (o : Out (wS X W R0 H0 R) (asgT cl t d env sto) k)
    (hk : ∀ env' s' σ' H' R', k env' s' → Grow R H R' H' → At X R0 H0 R' H' s' σ' env' → Q σ' H') : tG X (tvs t) (asgT cl t) v σ H Q := by
  refine ⟨R, env, sto, d, A.S, A.E, r, ?_⟩
  cases e : asgT cl t d env sto with
  | exc c fs s => exact (asgT_exc e).elim
  | stuck => rw [e] at o; exact o
  | ok p =>
    obtain ⟨env', s'⟩ := p
    rw [e] at o
    exact fun σ' H' R' g' S' E' k1 k2 => hk env' s' σ' H' R' o g' (A.asg g' S' E' k1 k2 fun i hi => asgT_own e i (.inl hi))
theorem dt_asg {tg e : Expr} {t : T} {f : E} {pos : Pos} (h : PE C e (tD X W (evE cl f))) (hg : PG C tg (tG X (tvs t) (asgT cl t))) (hs : swapsWithSole [tg] e pos.line C.env = pure false) (hw : swappedStores [tg] e C.env = pure none)
    (h1 : (assignEach [tg] C.env).map (·.2) = [assign tg C.env]) : PS C (.Assign [tg] e pos) (tS X W R0 H0 (evS cl w (.asg t f))) := by
  refine (ps_asg h hg hs hw h1).weak fun De σ H ⟨R, env, sto, A, o⟩ => ?_
  unfold evS at o
  refine useSD A o fun v H1 R1 d s1 g1 A1 r1 o1 => ?_
  exact asg_read A1 r1 (Out.bind o1) fun env' s' σ' H' R' q g' A' => Out.pure q σ' H' R' A' (g1.le.trans g'.le)
theorem dt_if {c : Expr} {a b : List Stmt} {fc : E} {sa sb : Ss} {pos : Pos} (hc : PT C c (tB X W fun env => (evE cl fc env).bind truM)) (ha : PSs C a (tS X W R0 H0 (evSs cl w sa))) (hb : PSs C b (tS X W R0 H0 (evSs cl w sb))) :
    PS C (.If c a b pos) (tS X W R0 H0 (evS cl w (.ite fc sa sb))) := by
  refine (ps_if hc ha hb).weak fun De σ H ⟨R, env, sto, A, o⟩ => ?_
  unfold evS at o
  have o : Out (wS X W R0 H0 R) ((((evE cl fc env).bind truM).bind fun k => if k then evSs cl w sa env else evSs cl w sb env) sto) (endS X R0 H0 R De) := Out.conv (by unfold M.bind; cases evE cl fc env sto <;> rfl) o
  refine useSB A o fun k H1 R1 s1 g1 A1 o1 => ?_
  cases k with
  | true => rw [if_pos rfl]; exact ⟨R1, env, s1, A1, o1.imp (endS_on g1.le) fun _ _ _ z => z⟩
  | false => rw [if_neg Bool.false_ne_true]; exact ⟨R1, env, s1, A1, o1.imp (endS_on g1.le) fun _ _ _ z => z⟩
theorem dt_nil : PSs C [] (tS X W R0 H0 (evSs cl w .nil)) := pss_nil.weak fun De σ H ⟨R, env, sto, A, o⟩ => Out.pure o σ H R A (RLe.refl _)
theorem dt_cons {st : Stmt} {sts : List Stmt} {s : S} {r : Ss} (h : PS C st (tS X W R0 H0 (evS cl w s))) (hr : PSs C sts (tS X W R0 H0 (evSs cl w r))) : PSs C (st :: sts) (tS X W R0 H0 (evSs cl w (.cons s r))) := by
  refine (pss_cons h hr).weak fun De σ H ⟨R, env, sto, A, o⟩ => ?_
  unfold evSs at o
  refine ⟨R, env, sto, A, (Out.bind o).imp (fun p s1 o1 => ?_) fun _ _ _ z => z⟩
  obtain ⟨fl, env1⟩ := p
  cases fl with
  | nx => exact fun σ' H' R' A' le => ⟨R', env1, s1, A', o1.imp (endS_on le) (wS_on le)⟩
  | rt d => exact (show endS X R0 H0 R De (.rt d, env1) s1 from o1)
  | bk => exact (show endS X R0 H0 R De (.bk, env1) s1 from o1)
  | ct => exact (show endS X R0 H0 R De (.ct, env1) s1 from o1)
end
end Bc

set_option linter.all false
set_option autoImplicit false
set_option maxRecDepth 100000
set_option maxHeartbeats 1000000
namespace Bc
open PySem PySem.Spec L2

section
variable {X : Sx} {W : WD} {C : Cx} {R0 R R1 : Rl} {H0 H H1 : Hp} {cl : Cl} {w : Nat} {De : Ends} {σ : L2.St} {env : Env} {sto s1 : Sto}
/-! ### loops -/
theorem dt_for {tg iter : Expr} {body : List Stmt} {t : T} {k : Itb} {it : Es} {b : Ss} {pos : Pos} (hp : PassesOwn (model C.prog C.w) C.A C.env C.xe) (hc : C.calm = true)
    (hi : PI C tg iter (tI X W false fun env => (evEs cl it env).bind (itD k))) (hg : PG C tg (tG X (tvs t) (asgT cl t))) (hb : PSs C body (tS X W R0 H0 (evSs cl w b))) (hs : ∀ x, foldedSetIterable iter C.env x = pure x) :
    PS C (.For tg iter body [] pos) (tS X W R0 H0 (evS cl w (.loop t k it b))) := by
  refine (ps_for hp hc hi hg hb hs).weak fun De σ H ⟨R, env, sto, A, o⟩ => ?_
  unfold evS at o
  generalize hf : (fun d env1 => (asgT cl t d env1).bind fun env2 => evSs cl w b env2) = f at o
  have o : Out (wS X W R0 H0 R) ((((evEs cl it env).bind (itD k)).bind fun items => forL f items env) sto) (endS X R0 H0 R De) := Out.conv (by unfold M.bind; cases evEs cl it env sto <;> rfl) o
  refine ⟨R, env, sto, A.S, A.E, (Out.bind o).imp (fun items s1 o1 J H1 R1 g1 S1 jok => ?_) (wS_wE A.g)⟩
  refine ⟨fun i m σ' H' => m = items.length - i ∧ i ≤ items.length ∧ ∃ R' env' s', At X R0 H0 R' H' s' σ' env' ∧ RLe R1 R' ∧ Out (wS X W R0 H0 R) (forL f (items.drop i) env' s') (endS X R0 H0 R De),
    ⟨items.length, by simp, Nat.zero_le _, R1, env, s1, A.grow g1 S1, RLe.refl _, o1⟩, ?_⟩
  rintro i m σ2 H2 ⟨rfl, hi, R2, env2, s2, A2, le2, o2⟩
  by_cases hlt : i < items.length
  · refine .inr ?_
    obtain ⟨go, yl⟩ := jok.go R2 H2 s2 i items[i] (show RLe R1 R2 from le2) A2.S (by simp [hlt])
    rw [List.drop_eq_getElem_cons hlt] at o2
    refine ⟨go, fun σ' H' => i + 1 ≤ items.length ∧ ∃ R' env' s', At X R0 H0 R' H' s' σ' env' ∧ RLe R1 R' ∧ Out (wS X W R0 H0 R) (forL f (items.drop (i + 1)) env' s') (endS X R0 H0 R De),
      fun σ' H' n => ⟨items.length - (i + 1), by omega, rfl, n⟩, fun x H3 y => ?_⟩
    obtain ⟨R3, g3, S3, r3⟩ := yl x H3 y
    unfold forL at o2
    have o3 := Out.bind o2
    rw [← hf] at o3
    have A3 := A2.grow g3 S3
    have le3 : RLe R1 R3 := le2.trans g3.le
    have leR : RLe R R3 := g1.le.trans le3
    refine asg_read A3 r3 (Out.bind (o3.imp (fun _ _ z => z) (wS_on leR))) fun env4 s4 σ4 H4 R4 o4 g4 A4 => ?_
    have leR4 := leR.trans g4.le
    have le4 := le3.trans g4.le
    refine ⟨R4, env4, s4, A4, o4.imp (fun p s5 o5 => ?_) (wS_on g4.le)⟩
    obtain ⟨fl, env5⟩ := p
    rw [hf] at o5
    cases fl with
    | nx => exact fun σ' H' R' A' le => ⟨hlt, R', env5, s5, A', le4.trans le, o5⟩
    | ct => exact fun σ' H' R' A' le => ⟨hlt, R', env5, s5, A', le4.trans le, o5⟩
    | bk => exact fun σ' H' R' A' le => (show endS X R0 H0 R De (.nx, env5) s5 from o5) σ' H' R' A' (leR4.trans le)
    | rt d => exact fun v H' R' g le S r => (show endS X R0 H0 R De (.rt d, env5) s5 from o5) v H' R' g (leR4.trans le) S r
  · refine .inl ⟨jok.stop R2 H2 s2 i (show RLe R1 R2 from le2) A2.S (by omega), ?_⟩
    rw [List.drop_eq_nil_of_le (by omega)] at o2
    exact (show endS X R0 H0 R De (.nx, env2) s2 from o2) σ2 H2 R2 A2 (g1.le.trans le2)
theorem dt_while {c : Expr} {body : List Stmt} {fc : E} {b : Ss} {pos : Pos} (hp : PassesOwn (model C.prog C.w) C.A C.env C.xe) (hc : PT C c (tB X W fun env => (evE cl fc env).bind truM)) (hb : PSs C body (tS X W R0 H0 (evSs cl w b))) :
    PS C (.While c body [] pos) (tS X W R0 H0 (evS cl w (.whil fc b))) := by
  refine (ps_while hp hc hb).weak fun De σ H ⟨R, env, sto, A, o⟩ => ?_
  unfold evS at o
  refine ⟨fun m σ' H' => ∃ R' env' s', At X R0 H0 R' H' s' σ' env' ∧ RLe R R' ∧ Out (wS X W R0 H0 R') (whileL (fun env1 => (evE cl fc env1).bind truM) (evSs cl w b) m env' s') (endS X R0 H0 R De),
    ⟨w, R, env, sto, A, RLe.refl _, o⟩, ?_⟩
  rintro m σ2 H2 ⟨R2, env2, s2, A2, le2, o2⟩
  cases m with
  | zero => exact o2.elim
  | succ m =>
    unfold whileL at o2
    refine useSB A2 o2 fun k H3 R3 s3 g3 A3 o3 => ?_
    have le3 := le2.trans g3.le
    cases k with
    | false => rw [if_neg Bool.false_ne_true]; exact (show endS X R0 H0 R De (.nx, env2) s3 from o3) σ2 H3 R3 A3 le3
    | true =>
      rw [if_pos rfl]
      rw [if_pos rfl] at o3
      refine ⟨fun σ' H' => ∃ R' env' s', At X R0 H0 R' H' s' σ' env' ∧ RLe R R' ∧ Out (wS X W R0 H0 R') (whileL (fun env1 => (evE cl fc env1).bind truM) (evSs cl w b) m env' s') (endS X R0 H0 R De),
        fun σ' H' n => ⟨m, Nat.lt_succ_self _, n⟩, R3, env2, s3, A3, (Out.bind o3).imp (fun p s5 o5 => ?_) fun _ _ _ z => z⟩
      obtain ⟨fl, env5⟩ := p
      have o5 := o5
      cases fl with
      | nx => exact fun σ' H' R' A' le => ⟨R', env5, s5, A', le3.trans le, Out.imp o5 (fun _ _ z => z) (wS_on le)⟩
      | ct => exact fun σ' H' R' A' le => ⟨R', env5, s5, A', le3.trans le, Out.imp o5 (fun _ _ z => z) (wS_on le)⟩
      | bk => exact fun σ' H' R' A' le => (show endS X R0 H0 R De (.nx, env5) s5 from o5) σ' H' R' A' (le3.trans le)
      | rt d => exact fun v H' R' g le S r => (show endS X R0 H0 R De (.rt d, env5) s5 from o5) v H' R' g (le3.trans le) S r
/-! ### stores from the right -/
theorem asgTs_nm {ts : Ts} {i : Nat} {d : Bc.D} {ds : List Bc.D} {env : Env} (s : Sto) : asgTs cl (.cons (.nm i) ts) (d :: ds) env s = if i < env.length then asgTs cl ts ds (env.set i (.val d)) s else Bc.R.stuck := by
  show ((if i < env.length then (pure (env.set i (.val d)) : M Env) else stuck).bind fun env1 => asgTs cl ts ds env1) s = _
  by_cases h : i < env.length
  · rw [if_pos h, if_pos h]; rfl
  · rw [if_neg h, if_neg h]; rfl
theorem asg1 {α : Type} {W' : Nat → List (Nat × Bc.D) → Sto → Prop} {i : Nat} {ts : Ts} {ds : List Bc.D} {env : Env} {s : Sto} {g : Env → M α} {k : α → Sto → Prop} (h : Out W' (((asgTs cl (.cons (.nm i) ts) ds env).bind g) s) k) :
    ∃ d r, ds = d :: r ∧ i < env.length ∧ Out W' (((asgTs cl ts r (env.set i (.val d))).bind g) s) k := by
  cases ds with
  | nil => exact h.elim
  | cons d r =>
    unfold M.bind at h
    rw [asgTs_nm] at h
    by_cases hi : i < env.length
    · rw [if_pos hi] at h
      exact ⟨d, r, rfl, hi, h⟩
    · rw [if_neg hi] at h; exact h.elim
theorem asg0 {α : Type} {W' : Nat → List (Nat × Bc.D) → Sto → Prop} {ds : List Bc.D} {env : Env} {s : Sto} {g : Env → M α} {k : α → Sto → Prop} (h : Out W' (((asgTs cl .nil ds env).bind g) s) k) : ds = [] ∧ Out W' (g env s) k := by
  cases ds with
  | nil => exact ⟨rfl, h⟩
  | cons d r => exact h.elim
theorem asg2 {α : Type} {W' : Nat → List (Nat × Bc.D) → Sto → Prop} {i j : Nat} {ds : List Bc.D} {env : Env} {s : Sto} {g : Env → M α} {k : α → Sto → Prop} (h : Out W' (((asgTs cl (.cons (.nm i) (.cons (.nm j) .nil)) ds env).bind g) s) k) :
    ∃ d1 d2, ds = [d1, d2] ∧ i < env.length ∧ j < env.length ∧ Out W' (g ((env.set i (.val d1)).set j (.val d2)) s) k := by
  obtain ⟨d1, r, rfl, h1, h⟩ := asg1 h
  obtain ⟨d2, r, rfl, h2, h⟩ := asg1 h
  obtain ⟨rfl, h⟩ := asg0 h
  rw [List.length_set] at h2
  exact ⟨d1, d2, rfl, h1, h2, h⟩
theorem asg3 {α : Type} {W' : Nat → List (Nat × Bc.D) → Sto → Prop} {i j l : Nat} {ds : List Bc.D} {env : Env} {s : Sto} {g : Env → M α} {k : α → Sto → Prop} (h : Out W' (((asgTs cl (.cons (.nm i) (.cons (.nm j) (.cons (.nm l) .nil))) ds env).bind g) s) k) :
    ∃ d1 d2 d3, ds = [d1, d2, d3] ∧ i < env.length ∧ j < env.length ∧ l < env.length ∧ Out W' (g (((env.set i (.val d1)).set j (.val d2)).set l (.val d3)) s) k := by
  obtain ⟨d1, r, rfl, h1, h⟩ := asg1 h
  obtain ⟨d2, r, rfl, h2, h⟩ := asg1 h
  obtain ⟨d3, r, rfl, h3, h⟩ := asg1 h
  obtain ⟨rfl, h⟩ := asg0 h
  rw [List.length_set] at h2
  rw [List.length_set, List.length_set] at h3
  exact ⟨d1, d2, d3, rfl, h1, h2, h3, h⟩
theorem At.set {i : Nat} {v : V} {d : Bc.D} (A : At X R0 H0 R H sto σ env) (hi : i < env.length) (r : Rep X R v d) : At X R0 H0 R H sto (σ.set i (some v)) (env.set i (.val d)) := by
  refine A.asg (ns := [i]) (Grow.refl _ _) A.S (A.E.setVal hi r) (fun j hj => ?_) (fun j hj => ?_) fun j hj => ?_
  · rw [List.getElem?_set_ne (fun e => hj (by simp [e]))]
  · rw [List.getElem?_set_ne (fun e => hj (by simp [e]))]
  · simp at hj
    exact notOwn_set (.inl hj.symm)
theorem tup_asg {es : Es} {ts : Ts} {env : Env} (s : Sto) : evS cl w (.asg (.tp ts) (.tup es)) env s = ((evEs cl es env).bind fun ds => (need (lenOk ds.length)).bind fun _ => (asgTs cl ts ds env).bind fun env1 => M.pure (Fl.nx, env1)) s := by
  unfold evS evE asgT
  unfold M.bind
  cases evEs cl es env s with
  | ok p =>
    dsimp only
    cases need (lenOk p.1.length) p.2 <;> rfl
  | exc _ _ _ => rfl
  | stuck => rfl
theorem dt_par {x y : Str} {a b : Expr} {i j : Nat} {es : Es} {px py pt pos : Pos} {kt k2 pt2} (hc : C.calm = true) (hN : C.N.Nodup) (hi : C.N[i]? = some x) (hj : C.N[j]? = some y) (hij : i ≠ j)
    (hx : C.env.scope.names.lookup x = some .local) (hy : C.env.scope.names.lookup y = some .local) (ha : PA C [a, b] (tDs X W (evEs cl es)))
    (hw : swappedStores [.Tuple [.Name x px, .Name y py] kt pt] (.Tuple [a, b] k2 pt2) C.env = pure (some [x, y])) (hs : swapsWithSole [.Tuple [.Name x px, .Name y py] kt pt] (.Tuple [a, b] k2 pt2) pos.line C.env = pure false) :
    PS C (.Assign [.Tuple [.Name x px, .Name y py] kt pt] (.Tuple [a, b] k2 pt2) pos) (tS X W R0 H0 (evS cl w (.asg (.tp (.cons (.nm i) (.cons (.nm j) .nil))) (.tup es)))) := by
  refine (ps_par hc hN hi hj hij hx hy ha hw hs).weak fun De σ H ⟨R, env, sto, A, o⟩ => ?_
  rw [tup_asg] at o
  refine useSDs A o fun vs H1 R1 ds s1 g1 A1 r1 o1 => ?_
  obtain ⟨_, o2⟩ := o1.needB
  obtain ⟨d1, d2, rfl, h1, h2, o3⟩ := asg2 o2
  cases r1 with | cons r1 t => cases t with | cons r2 t => cases t with | nil =>
  refine ⟨_, _, rfl, (show endS X R0 H0 R De (.nx, _) s1 from o3) _ H1 R1 ((A1.set h1 r1).set (by rw [List.length_set]; exact h2) r2) g1.le⟩
theorem dt_par3 {x y z : Str} {a b c : Expr} {i j l : Nat} {es : Es} {px py pz pt pos : Pos} {kt k2 pt2} (hc : C.calm = true) (hN : C.N.Nodup) (hi : C.N[i]? = some x) (hj : C.N[j]? = some y) (hl : C.N[l]? = some z) (hij : i ≠ j) (hil : i ≠ l) (hjl : j ≠ l)
    (hx : C.env.scope.names.lookup x = some .local) (hy : C.env.scope.names.lookup y = some .local) (hz : C.env.scope.names.lookup z = some .local) (ha : PA C [a, b, c] (tDs X W (evEs cl es)))
    (hw : swappedStores [.Tuple [.Name x px, .Name y py, .Name z pz] kt pt] (.Tuple [a, b, c] k2 pt2) C.env = pure (some [x, y, z])) (hs : swapsWithSole [.Tuple [.Name x px, .Name y py, .Name z pz] kt pt] (.Tuple [a, b, c] k2 pt2) pos.line C.env = pure false) :
    PS C (.Assign [.Tuple [.Name x px, .Name y py, .Name z pz] kt pt] (.Tuple [a, b, c] k2 pt2) pos) (tS X W R0 H0 (evS cl w (.asg (.tp (.cons (.nm i) (.cons (.nm j) (.cons (.nm l) .nil)))) (.tup es)))) := by
  refine (ps_par3 hc hN hi hj hl hij hil hjl hx hy hz ha hw hs).weak fun De σ H ⟨R, env, sto, A, o⟩ => ?_
  rw [tup_asg] at o
  refine useSDs A o fun vs H1 R1 ds s1 g1 A1 r1 o1 => ?_
  obtain ⟨_, o2⟩ := o1.needB
  obtain ⟨d1, d2, d3, rfl, h1, h2, h3, o3⟩ := asg3 o2
  cases r1 with | cons r1 t => cases t with | cons r2 t => cases t with | cons r3 t => cases t with | nil =>
  refine ⟨_, _, _, rfl, (show endS X R0 H0 R De (.nx, _) s1 from o3) _ H1 R1 (((A1.set h1 r1).set (by rw [List.length_set]; exact h2) r2).set (by rw [List.length_set, List.length_set]; exact h3) r3) g1.le⟩
end
end Bc

set_option linter.all false
set_option autoImplicit false
set_option maxRecDepth 100000
set_option maxHeartbeats 1000000
namespace Bc
open PySem PySem.Spec L2

section
variable {X : Sx} {W : WD} {C : Cx} {R0 R R1 : Rl} {H0 H H1 : Hp} {cl : Cl} {w : Nat} {De : Ends} {σ : L2.St} {env : Env} {sto s1 : Sto}
/-! ### lists of one's own -/
theorem h0_none {p : Addr} (g : Grow R0 H0 R H) (hp : H p = none) : H0 p = none := by
  cases z : H0 p with
  | none => rfl
  | some o =>
    by_cases m : p ∈ R0.mu
    · exact absurd hp (g.there p m (by rw [z]; intro q; cases q))
    · rw [(g.kept p o z m).1] at hp; cases hp
theorem EnvOk.setOwn {i : Nat} {p : Addr} {vs : List V} {ds : List Bc.D} (E : EnvOk X R H σ env) (hi : i < env.length) (e : H p = some (.lst vs)) (f : R.Fz p = none) (b : R.Bz p = none) (m : p ∉ R.mu) (r : Reps X R vs ds)
    (sep : ∀ (j : Nat) (s : Slot), j ≠ i → env[j]? = some s → isOwn s = true → σ[j]? ≠ some (some (.ref p))) : EnvOk X R H (σ.set i (some (.ref p))) (env.set i (.own ds)) := by
  refine ⟨by rw [List.length_set, List.length_set]; exact E.len, fun j s e1 => ?_, fun j k sj sk a e1 e2 o1 o2 q1 q2 => ?_⟩
  · by_cases h : i = j
    · subst h
      rw [List.getElem?_set_self hi] at e1
      cases e1
      rw [List.getElem?_set_self (by rw [E.len]; exact hi)]
      exact ⟨p, vs, rfl, e, f, b, m, r⟩
    · rw [List.getElem?_set_ne h] at e1 ⊢
      exact E.at_ j s e1
  · by_cases hj : i = j
    · by_cases hk : i = k
      · exact hj.symm.trans hk
      · subst hj
        rw [List.getElem?_set_self (by rw [E.len]; exact hi)] at q1
        cases q1
        rw [List.getElem?_set_ne hk] at e2 q2
        exact absurd q2 (sep k sk (fun z => hk z.symm) e2 o2)
    · by_cases hk : i = k
      · subst hk
        rw [List.getElem?_set_self (by rw [E.len]; exact hi)] at q2
        cases q2
        rw [List.getElem?_set_ne hj] at e1 q1
        exact absurd q1 (sep j sj (fun z => hj z.symm) e1 o1)
      · rw [List.getElem?_set_ne hj] at e1 q1
        rw [List.getElem?_set_ne hk] at e2 q2
        exact E.sep j k sj sk a e1 e2 o1 o2 q1 q2
theorem At.setOwn {i : Nat} {p : Addr} {vs : List V} {ds : List Bc.D} (A : At X R0 H0 R H sto σ env) (hi : i < env.length) (e : H p = some (.lst vs)) (f : R.Fz p = none) (b : R.Bz p = none) (m : p ∉ R.mu) (h0 : H0 p = none) (r : Reps X R vs ds)
    (sep : ∀ (j : Nat) (s : Slot), j ≠ i → env[j]? = some s → isOwn s = true → σ[j]? ≠ some (some (.ref p))) : At X R0 H0 R H sto (σ.set i (some (.ref p))) (env.set i (.own ds)) := by
  refine ⟨A.g, A.S, A.E.setOwn hi e f b m r sep, fun j s a e1 e2 e3 => ?_⟩
  by_cases h : i = j
  · subst h
    rw [List.getElem?_set_self (by rw [A.E.len]; exact hi)] at e3
    cases e3
    exact h0
  · rw [List.getElem?_set_ne h] at e1 e3
    exact A.fr j s a e1 e2 e3
/-- no slot of its own stands where nothing stood -/
theorem sep_new {p : Addr} (E : EnvOk X R H σ env) (hp : H p = none) (j : Nat) (s : Slot) (e : env[j]? = some s) (o : isOwn s = true) : σ[j]? ≠ some (some (.ref p)) := fun z => by
  have h := E.at_ j s e
  cases s with
  | own ds =>
    obtain ⟨a, vs, e1, e2, _⟩ := h
    rw [z] at e1
    cases e1
    rw [hp] at e2; cases e2
  | ownK _ => exact h.elim
  | ownT _ => exact h.elim
  | un => cases o
  | val _ => cases o
theorem mu_new {p : Addr} (S : StOk X R H sto) (hp : H p = none) : p ∉ R.mu := fun z => by
  obtain ⟨n, hn⟩ := List.getElem?_of_mem z
  have hlt : n < sto.length := by rw [← S.len]; exact (List.getElem?_eq_some_iff.mp hn).1
  obtain ⟨_, _, _, ws, e3, _⟩ := S.at_ n p sto[n] hn (by simp [hlt])
  rw [hp] at e3; cases e3
theorem bz_none {p : Addr} (S : StOk X R H sto) (hp : H p = none) : R.Bz p = none := by
  cases z : R.Bz p with
  | none => rfl
  | some o => rw [S.bz p o z] at hp; cases hp
theorem Fill.new {p : Addr} {vs : List V} {ds : List Bc.D} (S : StOk X R H sto) (hp : H p = none) (r : Reps X R vs ds) : Fill X R (upd H p (.lst vs)) p ds := ⟨⟨vs, upd_same, r⟩, fz_none S hp, bz_none S hp, mu_new S hp⟩
theorem dn_lst {es : List Expr} {f : Es} {pos : Pos} (h : PA C es (tDs X W (evEs cl f))) : PE C (.List es pos) (tN X W (evE cl (.lst f))) := by
  refine (pe_lst h).weak fun σ H Q ⟨R, env, sto, S, E, o⟩ => ?_
  unfold evE at o
  refine useDs S E o fun vs H1 R1 ds s1 g1 S1 E1 r1 o1 => ?_
  obtain ⟨hl, o2⟩ := o1.needB
  refine ⟨by rw [r1.length]; exact lenOk_line hl, fun p hp => ?_⟩
  obtain ⟨ds', e, q⟩ := Out.pure o2
  cases e
  have F := Fill.new S1 hp r1
  have h0 := h0_none g1 hp
  exact q p _ R1 (g1.at h0 (mu_new S h0)) (S1.at F.fz F.bz F.mu) h0 F
theorem dt_own {x : Str} {i : Nat} {e : Expr} {f : E} {pos pos' : Pos} (hN : C.N.Nodup) (hi : C.N[i]? = some x) (hx : Loc C.env.scope x) (he : PE C e (tN X W (evE cl f))) (hs : swapsWith e (some (.Name x pos')) pos.line C.env = pure false) (hf : C.fn x = true ∨ C.env.scope.names.lookup x = some .local) :
    PS C (.Assign [.Name x pos'] e pos) (tS X W R0 H0 (evS cl w (.asgOwn i f))) := by
  refine (ps_set hN hi hx he hs hf).weak fun De σ H ⟨R, env, sto, A, o⟩ => ?_
  unfold evS at o
  refine ⟨R, env, sto, A.S, A.E, (Out.bind o).imp (fun d s' o1 => ?_) (wS_wE A.g)⟩
  split at o1
  · rename_i xs
    refine ⟨xs, rfl, fun a H' R' g S' hn F => ?_⟩
    split at o1
    · rename_i hi'
      obtain ⟨vs, e, r⟩ := F.at_
      have q := (show endS X R0 H0 R De (.nx, env.set i (.own xs)) s' from o1)
      refine q _ H' R' ((A.grow g S').setOwn hi' e F.fz F.bz F.mu (h0_none A.g hn) r fun j s _ e1 e2 => sep_new A.E hn j s e1 e2) g.le
    · exact o1.elim
  · exact o1.elim
/-- a list of one's own is done with -/
theorem at_freeze {i : Nat} {ds : List Bc.D} (A : At X R0 H0 R H sto σ env) (hi : env[i]? = some (.own ds)) : ∃ R', At X R0 H0 R' H sto σ (env.set i (.val (.lst true ds))) ∧ RLe R R' := by
  obtain ⟨a, vs, ev, eh, f, b, m, r⟩ := A.E.at_ i _ hi
  have hl : i < env.length := (List.getElem?_eq_some_iff.mp hi).1
  have h0 : H0 a = none := A.fr i _ a hi rfl ev
  obtain ⟨le, g', S', r'⟩ := Fill.done2 (⟨⟨vs, eh, r⟩, f, b, m⟩ : Fill X R H a ds) eh r A.S A.g h0
  refine ⟨R.put a (.lst vs), ⟨g', S', ⟨by rw [List.length_set]; exact A.E.len, fun j s e => ?_, fun j k sj sk a' e1 e2 o1 o2 q1 q2 => ?_⟩, fun j s a' e1 e2 e3 => ?_⟩, le⟩
  · by_cases h : i = j
    · subst h
      rw [List.getElem?_set_self hl] at e
      cases e
      exact ⟨_, ev, r'⟩
    · rw [List.getElem?_set_ne h] at e
      have h1 := A.E.at_ j s e
      cases s with
      | un => trivial
      | val d =>
        obtain ⟨v, e1, r1⟩ := h1
        exact ⟨v, e1, r1.mono le⟩
      | own ds2 =>
        obtain ⟨a2, vs2, e1, e2, f2, b2, m2, r2⟩ := h1
        refine ⟨a2, vs2, e1, e2, ?_, b2, m2, Reps.mono le _ r2⟩
        rw [show (R.put a (.lst vs)).Fz a2 = R.Fz a2 from upd_ne fun z => h (A.E.sep i j _ _ a hi e rfl rfl ev (by rw [e1, z]))]
        exact f2
      | ownK _ => exact h1.elim
      | ownT _ => exact h1.elim
  · have hj : i ≠ j := fun h => by
      subst h
      rw [List.getElem?_set_self hl] at e1
      cases e1; cases o1
    have hk : i ≠ k := fun h => by
      subst h
      rw [List.getElem?_set_self hl] at e2
      cases e2; cases o2
    rw [List.getElem?_set_ne hj] at e1
    rw [List.getElem?_set_ne hk] at e2
    exact A.E.sep j k sj sk a' e1 e2 o1 o2 q1 q2
  · have hj : i ≠ j := fun h => by
      subst h
      rw [List.getElem?_set_self hl] at e1
      cases e1; cases e2
    rw [List.getElem?_set_ne hj] at e1
    exact A.fr j s a' e1 e2 e3
theorem fr_read {i : Nat} {r : Ss} (h : tS X W R0 H0 (evSs cl w (.cons (.freeze i) r)) De σ H) : tS X W R0 H0 (evSs cl w r) De σ H := by
  obtain ⟨R, env, sto, A, o⟩ := h
  unfold evSs evS at o
  have o := o
  cases e : env[i]? with
  | none => rw [e] at o; exact o.elim
  | some s =>
    rw [e] at o
    cases s with
    | own ds =>
      obtain ⟨R', A', le⟩ := at_freeze A e
      exact ⟨R', _, sto, A', (show Out (wS X W R0 H0 R) (evSs cl w r (env.set i (.val (.lst true ds))) sto) _ from o).imp (endS_on le) (wS_on le)⟩
    | ownK ds => exact (A.E.at_ i _ e).elim
    | ownT ds => exact (A.E.at_ i _ e).elim
    | un => exact o.elim
    | val _ => exact o.elim
/-- a list of one's own changes -/
theorem at_mut {i : Nat} {ds es : List Bc.D} {a : Addr} {ws : List V} (A : At X R0 H0 R H sto σ env) (hi : env[i]? = some (.own ds)) (ev : σ[i]? = some (some (.ref a))) (r : Reps X R ws es) : At X R0 H0 R (upd H a (.lst ws)) sto σ (env.set i (.own es)) := by
  obtain ⟨a', vs, ev', eh, f, b, m, r0⟩ := A.E.at_ i _ hi
  rw [ev] at ev'
  cases ev'
  have hl : i < env.length := (List.getElem?_eq_some_iff.mp hi).1
  have h0 : H0 a = none := A.fr i _ a hi rfl ev
  have m0 : a ∉ R0.mu := fun z => by
    obtain ⟨n, hn⟩ := List.getElem?_of_mem z
    exact m (List.mem_of_getElem? (A.g.le.mu n a hn))
  refine ⟨A.g.at h0 m0, A.S.at f b m, ⟨by rw [List.length_set]; exact A.E.len, fun j s e => ?_, fun j k sj sk a' e1 e2 o1 o2 q1 q2 => ?_⟩, fun j s a' e1 e2 e3 => ?_⟩
  · by_cases h : i = j
    · subst h
      rw [List.getElem?_set_self hl] at e
      cases e
      exact ⟨a, ws, ev, upd_same, f, b, m, r⟩
    · rw [List.getElem?_set_ne h] at e
      have h1 := A.E.at_ j s e
      cases s with
      | un => trivial
      | val d => exact h1
      | own ds2 =>
        obtain ⟨a2, vs2, e1, e2, f2, b2, m2, r2⟩ := h1
        refine ⟨a2, vs2, e1, ?_, f2, b2, m2, r2⟩
        rw [upd_ne fun z => h (A.E.sep i j _ _ a hi e rfl rfl ev (by rw [e1, z]))]
        exact e2
      | ownK _ => exact h1.elim
      | ownT _ => exact h1.elim
  · have own : ∀ (k : Nat) (s : Slot), (env.set i (.own es))[k]? = some s → isOwn s = true → ∃ s2, env[k]? = some s2 ∧ isOwn s2 = true := fun k s e o => by
      by_cases h : i = k
      · subst h; exact ⟨_, hi, rfl⟩
      · rw [List.getElem?_set_ne h] at e; exact ⟨s, e, o⟩
    obtain ⟨s1, e1, o1⟩ := own j sj e1 o1
    obtain ⟨s2, e2, o2⟩ := own k sk e2 o2
    exact A.E.sep j k s1 s2 a' e1 e2 o1 o2 q1 q2
  · by_cases h : i = j
    · subst h
      exact A.fr i _ a' hi rfl e3
    · rw [List.getElem?_set_ne h] at e1
      exact A.fr j s a' e1 e2 e3
theorem dt_app {x : Str} {i : Nat} {e : Expr} {f : E} {np apos cpos pos : Pos} (hN : C.N[i]? = some x) (hv : Vis C.env.scope x) (hd : (x == ("__debug__" : Str)) = false) (hcd : (x == ("__classdict__" : Str)) = false) (he : PE C e (tD X W (evE cl f)))
    (hfew : ((backTo cpos (starEach [e] C.env)).all (fun x => !x.1) && (backToKw cpos (keywordEach [] C.env)).all (fun x => x.1.isSome)
      && decide ([e].length + ([] : List Keyword).length + (if ([] : List Keyword).isEmpty then 0 else 1) < 30)) = true)
    (hline : (apos.endLine == cpos.line) = true) (hs : starEach [e] C.env = (false, eval e C.env) :: starEach [] C.env) :
    PS C (.Expr (.Call (.Attribute (.Name x np) "append" apos) [e] [] cpos) pos) (tS X W R0 H0 (evS cl w (.app i f))) := by
  refine (ps_expr (pe_bm PySem.F.plainAttrs_list PySem.F.slot_list_append PySem.F.type_list_append mt_append (pe_var hN hv hd hcd) (pa_cons he pa_nil hs) rfl hfew hline hs rfl) rfl).weak fun De σ H ⟨R, env, sto, A, o⟩ => ?_
  unfold evS at o
  have ⟨xs, hx⟩ : ∃ xs, env[i]? = some (.own xs) := by
    cases hx : env[i]? with
    | none => rw [hx] at o; exact o.elim
    | some s => cases s with
      | own xs => exact ⟨xs, rfl⟩
      | _ => rw [hx] at o; exact o.elim
  rw [hx] at o
  · obtain ⟨a, vs, ev, eh, f, b, m, r⟩ := A.E.at_ i _ hx
    refine ⟨.ref a, ev, .inl ⟨rfl, vs, .of eh⟩, useSD A o fun v H1 R1 d s1 g1 A1 r1 o1 => ?_⟩
    obtain ⟨hl, o2⟩ := o1.needB
    have eh1 := (g1.kept a _ eh m).1
    refine ⟨a, vs, v, rfl, rfl, eh1, by rw [r.length, sizeLine_eq]; exact of_decide_eq_true hl, ?_⟩
    exact (show endS X R0 H0 R De (.nx, _) s1 from o2) σ _ R1 (at_mut A1 hx ev ((Reps.mono g1.le _ r).append (.cons r1 .nil))) g1.le
theorem dt_put {x : Str} {i : Nat} {k e : Expr} {fk f : E} {np spos pos : Pos} (hN : C.N[i]? = some x) (hv : Vis C.env.scope x) (hd : (x == ("__debug__" : Str)) = false) (hcd : (x == ("__classdict__" : Str)) = false) (he : PE C e (tD X W (evE cl f))) (hk : PE C k (tT X W (evE cl fk)))
    (ha : ∀ v, assign (.Subscript (.Name x np) k spos) C.env v = (do
      let ov ← holding [v] (eval (.Name x np) C.env)
      let iv ← holding [v, ov] (eval k C.env)
      standAt spos
      holding [v, ov, iv] (setItem ov iv v)
      release [v, ov, iv] []))
    (hs : swapsWithSole [.Subscript (.Name x np) k spos] e pos.line C.env = pure false) (hw : swappedStores [.Subscript (.Name x np) k spos] e C.env = pure none) :
    PS C (.Assign [.Subscript (.Name x np) k spos] e pos) (tS X W R0 H0 (evS cl w (.put i fk f))) := by
  refine (ps_asg he (pg_sub (pe_var hN hv hd hcd) hk set_list ha) hs hw rfl).weak fun De σ H ⟨R, env, sto, A, o⟩ => ?_
  unfold evS at o
  refine useSD A o fun v H1 R1 d s1 g1 A1 r1 o1 => ?_
  have ⟨xs, hx⟩ : ∃ xs, env[i]? = some (.own xs) := by
    cases hx : env[i]? with
    | none => rw [hx] at o1; exact o1.elim
    | some s => cases s with
      | own xs => exact ⟨xs, rfl⟩
      | _ => rw [hx] at o1; exact o1.elim
  rw [hx] at o1
  · obtain ⟨a, vs, ev, eh, f, b, m, r⟩ := A1.E.at_ i _ hx
    refine ⟨.ref a, ev, useST A1 o1 fun v2 H2 R2 d2 s2 g2 A2 r2 o2 => ?_⟩
    cases d2 <;> try exact o2.elim
    · obtain ⟨n, en, o3⟩ := Out.ofOptB o2
      have eh1 := (g2.kept a _ eh m).1
      rw [r2.int]
      refine ⟨a, vs, _, n, rfl, rfl, eh1, by rw [r.length]; exact en, ?_⟩
      exact (show endS X R0 H0 R De (.nx, _) s2 from o3) σ _ R2 (at_mut A2 hx ev (Reps.set (r1.mono g2.le) n (Reps.mono g2.le _ r))) (g1.le.trans g2.le)
theorem dt_retLoc {es : List Expr} {f : Es} {lpos pos : Pos} (h : PA C es (tDs X W (evEs cl f))) : PS C (.Return (some (.List es lpos)) pos) (tS X W R0 H0 (evS cl w (.retLoc f))) := by
  refine (ps_ret (pe_lst h)).weak fun De σ H ⟨R, env, sto, A, o⟩ => ?_
  unfold evS at o
  refine useSDs A o fun vs H1 R1 ds s1 g1 A1 r1 o1 => ?_
  obtain ⟨hl, o2⟩ := o1.needB
  refine ⟨by rw [r1.length]; exact lenOk_line hl, fun p hp => ?_⟩
  have o3 := Out.bind o2
  unfold newLoc at o3
  cases nb : nobs ds with
  | false => rw [nb] at o3; exact o3.elim
  | true =>
    rw [nb, if_pos rfl] at o3
    have q := (show endS X R0 H0 R De (.rt (.loc s1.length), env) (s1 ++ [ds]) from o3)
    have h0 := h0_none A1.g hp
    have fz := fz_none A1.S hp
    have bz := bz_none A1.S hp
    have mu := mu_new A1.S hp
    have lm : ∀ (n : Nat) (a : Addr), R1.mu[n]? = some a → (R1.mu ++ [p])[n]? = some a := fun n a e => by
      rw [List.getElem?_append_left (List.getElem?_eq_some_iff.mp e).1]; exact e
    have le : RLe R1 { R1 with mu := R1.mu ++ [p] } := ⟨HLe.refl _, HLe.refl _, lm⟩
    have last : ∀ (n : Nat) (a : Addr), (R1.mu ++ [p])[n]? = some a → R1.mu[n]? = some a ∨ (a = p ∧ n = R1.mu.length) := fun n a e => by
      by_cases hn : n < R1.mu.length
      · rw [List.getElem?_append_left hn] at e; exact .inl e
      · have hn2 := (List.getElem?_eq_some_iff.mp e).1
        rw [List.length_append, List.length_singleton] at hn2
        have hn3 : n = R1.mu.length := by omega
        subst hn3
        rw [List.getElem?_append_right (Nat.le_refl _), Nat.sub_self] at e
        cases e
        exact .inr ⟨rfl, rfl⟩
    have G0 := A1.g
    refine q (.ref p) _ { R1 with mu := R1.mu ++ [p] } ⟨G0.le.trans le, G0.eB, ?_, fun a ha => ?_, ?_⟩ (g1.le.trans le) ⟨?_, ?_, ?_, ?_, fun n a es' e1 e2 => ?_⟩ (.loc ?_)
    · have z := G0.at (o := .lst vs) h0 (fun z => mu (by obtain ⟨n, hn⟩ := List.getElem?_of_mem z; exact List.mem_of_getElem? (G0.le.mu n p hn)))
      exact z.kept
    · rcases List.mem_append.mp ha with ha | ha
      · exact G0.muN a ha
      · simp at ha
        subst ha
        exact .inr h0
    · have z := G0.at (o := .lst vs) h0 (fun z => mu (by obtain ⟨n, hn⟩ := List.getElem?_of_mem z; exact List.mem_of_getElem? (G0.le.mu n p hn)))
      exact z.there
    · exact (A1.S.at (o := .lst vs) fz bz mu).fz
    · exact (A1.S.at (o := .lst vs) fz bz mu).bz
    · show (R1.mu ++ [p]).length = (s1 ++ [ds]).length
      rw [List.length_append, List.length_append, A1.S.len]; rfl
    · show (R1.mu ++ [p]).Nodup
      rw [List.nodup_append]
      refine ⟨A1.S.nd, by simp, fun a ha b hb => ?_⟩
      simp at hb
      subst hb
      exact fun z => mu (z ▸ ha)
    · rcases last n a e1 with e1 | ⟨rfl, rfl⟩
      · have e2 : (s1 ++ [ds])[n]? = some es' := e2
        rw [List.getElem?_append_left (by rw [← A1.S.len]; exact (List.getElem?_eq_some_iff.mp e1).1)] at e2
        obtain ⟨k1, k2, k3, ws, k4, k5⟩ := A1.S.at_ n a es' e1 e2
        have ne : a ≠ p := fun z => mu (z ▸ List.mem_of_getElem? e1)
        exact ⟨k1, k2, k3, ws, by rw [upd_ne ne]; exact k4, Reps.mono (R := { R1 with Bz := fun _ => none }) (R' := { R1 with Bz := fun _ => none, mu := R1.mu ++ [p] }) ⟨HLe.refl _, HLe.refl _, lm⟩ _ k5⟩
      · have e2 : (s1 ++ [ds])[R1.mu.length]? = some es' := e2
        rw [A1.S.len, List.getElem?_append_right (Nat.le_refl _), Nat.sub_self] at e2
        cases e2
        refine ⟨fz, bz, nb, vs, upd_same, ?_⟩
        exact Reps.mono (R := { R1 with Bz := fun _ => none }) (R' := { R1 with Bz := fun _ => none, mu := R1.mu ++ [a] }) ⟨HLe.refl _, HLe.refl _, lm⟩ _ (Reps.nob _ _ nb r1)
    · show (R1.mu ++ [p])[s1.length]? = some p
      rw [← A1.S.len, List.getElem?_append_right (Nat.le_refl _), Nat.sub_self]; rfl
end
end Bc

set_option linter.all false
set_option autoImplicit false
set_option maxRecDepth 100000
set_option maxHeartbeats 1000000
namespace Bc
open PySem PySem.Spec L2

section
variable {X : Sx} {W : WD} {C : Cx} {pos : Pos}
theorem flatO_cons {f : Bc.D → M (List Bc.D)} {x : Bc.D} {xs : List Bc.D} {s sf : Sto} {ys : List Bc.D} (h : flatO f (x :: xs) s = .ok (ys, sf)) :
    ∃ o s1 zs, f x s = .ok (o, s1) ∧ flatO f xs s1 = .ok (zs, sf) ∧ ys = o ++ zs := by
  unfold flatO at h
  obtain ⟨o, s1, h1, h⟩ := bind_ok h
  obtain ⟨zs, s2, h2, h⟩ := bind_ok h
  cases h
  exact ⟨o, s1, zs, h1, h2, rfl⟩
theorem EnvOk.at {R : Rl} {H : Hp} {σ : L2.St} {env : Env} {D : Addr} {o : HO} (E : EnvOk X R H σ env) (sep : ∀ (j : Nat) (s : Slot), env[j]? = some s → isOwn s = true → σ[j]? ≠ some (some (.ref D))) : EnvOk X R (upd H D o) σ env := by
  refine ⟨E.len, fun j s e => ?_, E.sep⟩
  have h1 := E.at_ j s e
  cases s with
  | un => trivial
  | val d => exact h1
  | own ds2 =>
    obtain ⟨a2, vs2, e1, e2, r⟩ := h1
    exact ⟨a2, vs2, e1, by rw [upd_ne (fun z => sep j _ e rfl (by rw [e1, z]))]; exact e2, r⟩
  | ownK _ => exact h1.elim
  | ownT _ => exact h1.elim
theorem lc2_read {cl : Cl} {t t1 : T} {k k1 : Itb} {it cs it1 cs1 : Es} {e : E} {vs vs1 : List Nat} {σ : L2.St} {H : Hp} {Q : VK} (h : tN X W (evE cl (.lc2 t k it cs t1 k1 it1 cs1 e vs vs1)) σ H Q) (hns : ∀ n ∈ tvs t, n ∈ vs) (hns1 : ∀ n ∈ tvs t1, n ∈ vs1) :
    tLc2 (tI X W true fun env => (evEs cl it env).bind (itD k)) (tG X (tvs t) (asgT cl t)) (tB X W0 (evCs cl cs)) (tI X W0 false fun env => (evEs cl it1 env).bind (itD k1)) (tG X (tvs t1) (asgT cl t1)) (tB X W0 (evCs cl cs1)) (tD X W0 (evE cl e)) vs vs1 σ H Q := by
  obtain ⟨R0, env, s0, S0, E0, o⟩ := h
  unfold evE at o
  generalize hg : (fun env1 d1 => (asgT cl t1 d1 (Bc.wipe env1 vs1)).bind fun env2 => (evCs cl cs1 env2).bind fun b2 => if b2 then (evE cl e env2).bind fun y => (pure (some y) : M (Option Bc.D)) else pure none) = g at o
  have o : Out (wE X W R0 H σ) ((((evEs cl it env).bind (itD k)).bind fun items => (noX (flatO (fun d => (asgT cl t d (Bc.wipe env vs)).bind fun env1 => (evCs cl cs env1).bind fun b =>
        if b then ((evEs cl it1 env1).bind (itD k1)).bind fun items1 => mapO (fun d1 => (asgT cl t1 d1 (Bc.wipe env1 vs1)).bind fun env2 => (evCs cl cs1 env2).bind fun b2 => if b2 then (evE cl e env2).bind fun y => (pure (some y) : M (Option Bc.D)) else pure none) items1 else pure []) items)).bind fun ys =>
      (need (lenOk ys.length)).bind fun _ => pure (.lst true ys)) s0) (fun (d : Bc.D) (s' : Sto) => ∃ ds, d = Bc.D.lst true ds ∧ ∀ a H' R', Grow R0 H R' H' → StOk X R' H' s' → H a = none → Fill X R' H' a ds → Q (.ref a) H') := by
    refine Out.conv ?_ o
    have e0 : ∀ env1, ((evEs cl it1 env1).bind fun ds1 => (itD k1 ds1).bind fun items1 => mapO (fun d1 => (asgT cl t1 d1 (Bc.wipe env1 vs1)).bind fun env2 => (evCs cl cs1 env2).bind fun b2 => if b2 then (evE cl e env2).bind fun y => (pure (some y) : M (Option Bc.D)) else pure none) items1) = (((evEs cl it1 env1).bind (itD k1)).bind fun items1 => mapO (fun d1 => (asgT cl t1 d1 (Bc.wipe env1 vs1)).bind fun env2 => (evCs cl cs1 env2).bind fun b2 => if b2 then (evE cl e env2).bind fun y => (pure (some y) : M (Option Bc.D)) else pure none) items1) := fun env1 => by
      funext s
      unfold M.bind
      cases evEs cl it1 env1 s <;> rfl
    simp only [e0]
    unfold M.bind
    cases evEs cl it env s0 <;> rfl
  clear hg g
  refine ⟨R0, env, s0, S0, E0, (Out.bind o).imp (fun items s1 o1 J H1 R1 g1 S1 jok => ?_) fun _ _ _ w => w⟩
  intro D hD
  generalize hf : (fun d => (asgT cl t d (Bc.wipe env vs)).bind fun env1 => (evCs cl cs env1).bind fun b =>
        if b then ((evEs cl it1 env1).bind (itD k1)).bind fun items1 => mapO (fun d1 => (asgT cl t1 d1 (Bc.wipe env1 vs1)).bind fun env2 => (evCs cl cs1 env2).bind fun b2 => if b2 then (evE cl e env2).bind fun y => (pure (some y) : M (Option Bc.D)) else pure none) items1 else (pure [] : M (List Bc.D))) = f at o1
  have o2 := Out.bind o1
  obtain ⟨ys, sf, ey, o2⟩ : ∃ ys sf, flatO f items s1 = .ok (ys, sf) ∧ Out (wE X W R0 H σ) (((need (lenOk ys.length)).bind fun _ => M.pure (.lst true ys)) sf) (fun (d : Bc.D) (s' : Sto) => ∃ ds, d = Bc.D.lst true ds ∧ ∀ a H' R', Grow R0 H R' H' → StOk X R' H' s' → H a = none → Fill X R' H' a ds → Q (.ref a) H') := by
    unfold noX at o2
    cases e1 : flatO f items s1 with
    | ok p => rw [e1] at o2; exact ⟨p.1, p.2, rfl, o2⟩
    | exc _ _ _ => rw [e1] at o2; exact o2.elim
    | stuck => rw [e1] at o2; exact o2.elim
  obtain ⟨hl, o3⟩ := o2.needB
  have hl := lenOk_line hl
  have E1 : EnvOk X R1 H1 σ env := E0.grow g1
  have hD1 : R1.Fz D = none := fz_none S1 hD
  have hB1 : R1.Bz D = none := bz_none S1 hD
  have hM1 : D ∉ R1.mu := mu_new S1 hD
  have hD0 : H D = none := h0_none g1 hD
  refine ⟨fun i m H' => m = items.length - i ∧ i ≤ items.length ∧ ∃ R' s' acc zs, Grow R1 H1 R' H' ∧ StOk X R' H' s' ∧ Fill X R' H' D acc ∧ flatO f (items.drop i) s' = .ok (zs, sf) ∧ acc ++ zs = ys, ⟨items.length, by simp, Nat.zero_le _, R1, s1, [], ys, ?_, S1.at hD1 hB1 hM1, ⟨⟨[], upd_same, .nil⟩, hD1, hB1, hM1⟩, by simpa using ey, rfl⟩, ?_⟩
  · exact (Grow.refl R1 H1).at hD hM1
  rintro i m H2 ⟨rfl, hi, R2, s2, acc, zs, g2, S2, F2, e2, ea⟩
  by_cases hlt : i < items.length
  · refine .inr ?_
    obtain ⟨go, yl⟩ := jok.go R2 H2 s2 i items[i] (show Grow R1 H1 R2 H2 from g2) S2 (by simp [hlt])
    rw [List.drop_eq_getElem_cons hlt] at e2
    obtain ⟨ob, s3, zs2, e3, e4, ez⟩ := flatO_cons e2
    refine ⟨go, fun H' => i + 1 ≤ items.length ∧ ∃ R' s' acc zs, Grow R1 H1 R' H' ∧ StOk X R' H' s' ∧ Fill X R' H' D acc ∧ flatO f (items.drop (i + 1)) s' = .ok (zs, sf) ∧ acc ++ zs = ys, fun H' n => ⟨items.length - (i + 1), by omega, rfl, n⟩, fun x H3 y => ?_⟩
    obtain ⟨R3, g3, S3, r3⟩ := yl x H3 y
    rw [← hf] at e3
    obtain ⟨env1, s4, e5, e3⟩ := bind_ok e3
    obtain ⟨b, s5, e6, e3⟩ := bind_ok e3
    have g13 := g2.trans g3
    refine ⟨R3, Bc.wipe env vs, s2, items[i], S3, ((E1.grow g13).wipe vs), r3, out_ok e5 fun σ4 H4 R4 g4 S4 E4 k1' k2' => ?_⟩
    have sepD : ∀ (j : Nat) (s : Slot), env1[j]? = some s → isOwn s = true → σ4[j]? ≠ some (some (.ref D)) := fun j s e1 e2 => by
      have hj : j ∉ tvs t := fun z => by rw [asgT_own e5 j (.inl z) s e1] at e2; cases e2
      rw [k2' j hj] at e1
      rw [k1' j hj]
      rcases wipeE_get e1 with rfl | ⟨e3, hv⟩
      · cases e2
      · rw [wipe_out hv]
        exact sep_new E1 hD j s e3 e2
    refine ⟨?_, R4, env1, s4, S4, E4, out_ok e6 fun H5 R5 g5 S5 => ?_⟩
    · have hl4 : σ4.length = (L2.wipe σ vs).length := by
        have a1 := E4.len
        have a2 := ((E1.grow g13).wipe vs).len
        have : env1.length = (Bc.wipe env vs).length := asgT_len (W' := noW) (k := fun _ _ => True) (by rw [e5]; trivial) e5
        omega
      have w1 := wipe_eq hl4 (vs := vs) fun i hi => k1' i fun z => hi (hns i z)
      rw [w1]; exact wipe_wipe σ vs
    · have g15 := (g13.trans g4).trans g5
      have F5 := ((F2.grow g3).grow g4).grow g5
      cases b with
      | false =>
        rw [if_neg Bool.false_ne_true] at e3
        cases e3
        refine iteF ?_
        exact ⟨hlt, R5, s3, acc, zs2, g15, S5, F5, e4, by rw [ez] at ea; exact ea⟩
      | true =>
        rw [if_pos rfl] at e3
        refine iteT ?_
        obtain ⟨items1, s6, e7, e3⟩ := bind_ok e3
        refine ⟨R5, env1, s5, S5, E4.grow g5, out_ok e7 fun J1 H6 R6 g6 S6 jok1 => ?_⟩
        have F6 := F5.grow g6
        have E6 : EnvOk X R6 H6 σ4 env1 := (E4.grow g5).grow g6
        have g16 := g15.trans g6
        generalize hh : (fun d1 => (asgT cl t1 d1 (Bc.wipe env1 vs1)).bind fun env2 => (evCs cl cs1 env2).bind fun b2 => if b2 then (evE cl e env2).bind fun y => (pure (some y) : M (Option Bc.D)) else pure none) = hm at e3
        -- the inner loop; all but D grows on from (R6, H6)
        refine ⟨fun j m H' => m = items1.length - j ∧ j ≤ items1.length ∧ ∃ R' s' acc1 zs1, Grow R1 H1 R' H' ∧ RLe R6 R' ∧ EnvOk X R' H' σ4 env1 ∧ StOk X R' H' s' ∧ Fill X R' H' D (acc ++ acc1) ∧ mapO hm (items1.drop j) s' = .ok (zs1, s3) ∧ acc1 ++ zs1 = ob, ⟨items1.length, by simp, Nat.zero_le _, R6, s6, [], ob, g16, RLe.refl _, E6, S6, by simpa using F6, by simpa using e3, rfl⟩, ?_⟩
        rintro j m H7 ⟨rfl, hj, R7, s7, acc1, zs1, g7, le7, E7, S7, F7, e8, ea1⟩
        by_cases hlt1 : j < items1.length
        · refine .inr ?_
          obtain ⟨go1, yl1⟩ := jok1.go R7 H7 s7 j items1[j] (show RLe R6 R7 from le7) S7 (by simp [hlt1])
          rw [List.drop_eq_getElem_cons hlt1] at e8
          obtain ⟨ob1, s8, zs3, e9, e10, ez1⟩ := mapO_cons e8
          refine ⟨go1, fun H' => j + 1 ≤ items1.length ∧ ∃ R' s' acc1 zs1, Grow R1 H1 R' H' ∧ RLe R6 R' ∧ EnvOk X R' H' σ4 env1 ∧ StOk X R' H' s' ∧ Fill X R' H' D (acc ++ acc1) ∧ mapO hm (items1.drop (j + 1)) s' = .ok (zs1, s3) ∧ acc1 ++ zs1 = ob, fun H' n => ⟨items1.length - (j + 1), by omega, rfl, n⟩, fun x1 H8 y1 => ?_⟩
          obtain ⟨R8, g8, S8, r8⟩ := yl1 x1 H8 y1
          rw [← hh] at e9
          obtain ⟨env2, s9, e11, e9⟩ := bind_ok e9
          obtain ⟨b2, s10, e12, e9⟩ := bind_ok e9
          refine ⟨R8, Bc.wipe env1 vs1, s7, items1[j], S8, ((E7.grow g8).wipe vs1), r8, out_ok e11 fun σ9 H9 R9 g9 S9 E9 k2 _ => ?_⟩
          refine ⟨?_, R9, env2, s9, S9, E9, out_ok e12 fun H10 R10 g10 S10 => ?_⟩
          · have hl9 : σ9.length = (L2.wipe σ4 vs1).length := by
              have a1 := E9.len
              have a2 := ((E7.grow g8).wipe vs1).len
              have : env2.length = (Bc.wipe env1 vs1).length := asgT_len (W' := noW) (k := fun _ _ => True) (by rw [e11]; trivial) e11
              omega
            have w1 := wipe_eq hl9 (vs := vs1) fun i hi => k2 i fun z => hi (hns1 i z)
            rw [w1]; exact wipe_wipe σ4 vs1
          · have gg := (g8.trans g9).trans g10
            have F10 := F7.grow gg
            cases b2 with
            | false =>
              rw [if_neg Bool.false_ne_true] at e9
              cases e9
              refine iteF ?_
              exact ⟨hlt1, R10, s8, acc1, zs3, g7.trans gg, le7.trans gg.le, E7.grow gg, S10, F10, e10, by rw [ez1] at ea1; exact ea1⟩
            | true =>
              rw [if_pos rfl] at e9
              refine iteT ?_
              obtain ⟨yv, s11, e13, e9⟩ := bind_ok e9
              cases e9
              refine ⟨R10, env2, s10, S10, E9.grow g10, out_ok e13 fun v H11 R11 g11 S11 r11 => ?_⟩
              have ga := gg.trans g11
              have F11 := F10.grow g11
              obtain ⟨ws, ew, rw11⟩ := F11.at_
              have ez1 : zs1 = yv :: zs3 := ez1
              have lena : ws.length < sizeLine := by
                rw [rw11.length]
                have h1 : ob.length = acc1.length + (zs3.length + 1) := by rw [← ea1, ez1, List.length_append, List.length_cons]
                have h2 : ys.length = acc.length + (ob.length + zs2.length) := by rw [← ea, ez, List.length_append, List.length_append]
                rw [List.length_append]
                omega
              have FP := F11.push ew r11
              have hE : EnvOk X R11 (upd H11 D (.lst (ws ++ [v]))) σ4 env1 := ((E7.grow gg).grow g11).at sepD
              refine ⟨ws, ew, lena, hlt1, R11, s8, acc1 ++ [yv], zs3, (g7.trans ga).at hD hM1, le7.trans ga.le, hE, S11.at F11.fz F11.bz F11.mu, by rw [← List.append_assoc]; exact FP, e10, ?_⟩
              rw [← ea1, ez1, List.append_assoc]; rfl
        · refine .inl ⟨jok1.stop R7 H7 s7 j (show RLe R6 R7 from le7) S7 (by omega), ?_⟩
          rw [List.drop_eq_nil_of_le (by omega)] at e8
          cases e8
          rw [List.append_nil] at ea1
          subst ea1
          refine ⟨hlt, R7, s3, acc ++ acc1, zs2, g7, S7, F7, e4, ?_⟩
          rw [← ea, ez, List.append_assoc]
  · refine .inl ⟨jok.stop R2 H2 s2 i (show Grow R1 H1 R2 H2 from g2) S2 (by omega), ?_⟩
    rw [List.drop_eq_nil_of_le (by omega)] at e2
    cases e2
    rw [List.append_nil] at ea
    subst ea
    obtain ⟨ds, e9, q9⟩ := Out.pure (show Out _ (M.pure (Bc.D.lst true acc) sf) _ from o3)
    cases e9
    exact q9 D H2 R2 (g1.trans g2) S2 hD0 F2
theorem lc2_lst {cl : Cl} {t t1 : T} {k k1 : Itb} {it cs it1 cs1 : Es} {e : E} {vs vs1 : List Nat} {W' : Nat → List (Nat × Bc.D) → Sto → Prop} {env : Env} {s : Sto} {kk : Bc.D → Sto → Prop} (h : Out W' (evE cl (.lc2 t k it cs t1 k1 it1 cs1 e vs vs1) env s) kk) :
    Out W' (evE cl (.lc2 t k it cs t1 k1 it1 cs1 e vs vs1) env s) fun d s' => kk d s' ∧ ∃ ds, d = .lst true ds := by
  unfold evE at h ⊢
  have key : ∀ (ys : List Bc.D) (s' : Sto), Out W' (((need (lenOk ys.length)).bind fun _ => (M.pure (.lst true ys) : M Bc.D)) s') kk → Out W' (((need (lenOk ys.length)).bind fun _ => (M.pure (.lst true ys) : M Bc.D)) s') fun d s' => kk d s' ∧ ∃ ds, d = .lst true ds := fun ys s' h => by
    obtain ⟨hl, h⟩ := h.needB
    rw [hl]
    exact ⟨h, _, rfl⟩
  refine Out.unbind (Out.bind h) fun ds s1 h1 => ?_
  refine Out.unbind (Out.bind h1) fun ds s1 h1 => ?_
  refine Out.unbind (Out.bind h1) fun ds s1 h1 => ?_
  exact key _ _ h1
/-- a block's context -/
abbrev Cb (C : Cx) (s : Shared) (H : Hp) (scope : Scope) (A : Addr) (c : List (Str × Addr)) (fp : List Addr) : Cx := C.blk s H scope (compEnvC scope c A C.env) fp
section
variable {elt tg iter tg1 iter1 : Expr} {ifs ifs1 : List Expr} {scope : Scope} {ownp : List (Str × Nat)} {cl : Cl} {t t1 : T} {k k1 : Itb} {it cs it1 cs1 : Es} {e : E} {vs1 : List Nat}
theorem dn_lc2 (hK : X.K = C.K) (hc : C.calm = true) (hN : C.N.Nodup) (hi : PI C tg iter (tI X W true fun env => (evEs cl it env).bind (itD k))) (ok : BlkOk C.N C.env.scope scope ownp) (hv : ∀ i ∈ vs1, i ∈ ownp.map (·.2))
    (hg : ∀ s H A c fp, PG (Cb C s H scope A c fp) tg (tG X (tvs t) (asgT cl t))) (hns : ∀ n ∈ tvs t, n ∈ ownp.map (·.2)) (ht : ∀ s H A c fp, PTs (Cb C s H scope A c fp) ifs (tB X W0 (evCs cl cs)))
    (hi1 : ∀ s H A c fp, PI (Cb C s H scope A c fp) tg1 iter1 (tI X W0 false fun env => (evEs cl it1 env).bind (itD k1))) (hg1 : ∀ s H A c fp, PG (Cb C s H scope A c fp) tg1 (tG X (tvs t1) (asgT cl t1))) (hns1 : ∀ n ∈ tvs t1, n ∈ vs1)
    (ht1 : ∀ s H A c fp, PTs (Cb C s H scope A c fp) ifs1 (tB X W0 (evCs cl cs1))) (he : ∀ s H A c fp, PE (Cb C s H scope A c fp) elt (tD X W0 (evE cl e)))
    (hs : ∀ x, foldedSetIterable iter C.env x = pure x) (hs1 : ∀ env x, foldedSetIterable iter1 env x = pure x) :
    PE C (.ListComp elt [⟨tg, iter, ifs, 0⟩, ⟨tg1, iter1, ifs1, 0⟩] scope pos) (tN X W (evE cl (.lc2 t k it cs t1 k1 it1 cs1 e (ownp.map (·.2)) vs1))) :=
  (pe_lc2 hc hN hi ok hv hg ht hi1 hg1 ht1 he hs hs1).weak fun σ H Q h => lc2_read h hns hns1
theorem dx_lc2 (hK : X.K = C.K) (hc : C.calm = true) (hN : C.N.Nodup) (hi : PI C tg iter (tI X W true fun env => (evEs cl it env).bind (itD k))) (ok : BlkOk C.N C.env.scope scope ownp) (hv : ∀ i ∈ vs1, i ∈ ownp.map (·.2))
    (hg : ∀ s H A c fp, PG (Cb C s H scope A c fp) tg (tG X (tvs t) (asgT cl t))) (hns : ∀ n ∈ tvs t, n ∈ ownp.map (·.2)) (ht : ∀ s H A c fp, PTs (Cb C s H scope A c fp) ifs (tB X W0 (evCs cl cs)))
    (hi1 : ∀ s H A c fp, PI (Cb C s H scope A c fp) tg1 iter1 (tI X W0 false fun env => (evEs cl it1 env).bind (itD k1))) (hg1 : ∀ s H A c fp, PG (Cb C s H scope A c fp) tg1 (tG X (tvs t1) (asgT cl t1))) (hns1 : ∀ n ∈ tvs t1, n ∈ vs1)
    (ht1 : ∀ s H A c fp, PTs (Cb C s H scope A c fp) ifs1 (tB X W0 (evCs cl cs1))) (he : ∀ s H A c fp, PE (Cb C s H scope A c fp) elt (tD X W0 (evE cl e)))
    (hs : ∀ x, foldedSetIterable iter C.env x = pure x) (hs1 : ∀ env x, foldedSetIterable iter1 env x = pure x) :
    PE C (.ListComp elt [⟨tg, iter, ifs, 0⟩, ⟨tg1, iter1, ifs1, 0⟩] scope pos) (tD X W (evE cl (.lc2 t k it cs t1 k1 it1 cs1 e (ownp.map (·.2)) vs1))) :=
  (pe_lc2 hc hN hi ok hv hg ht hi1 hg1 ht1 he hs hs1).weak fun σ H Q h => lc2_read (tN_tD (fun _ _ _ _ => lc2_lst) h) hns hns1
end
/-! ### a comprehension stored at a name of its own line -/
variable {R0 : Rl} {H0 : Hp} {cl : Cl} {w : Nat}
theorem set_val {i : Nat} {f : E} {De : Ends} {σ : L2.St} {H : Hp} (h : tS X W R0 H0 (evS cl w (.asg (.nm i) f)) De σ H) : tD X W (evE cl f) σ H fun x H1 => De.nx (σ.set i (some x)) H1 := by
  obtain ⟨R, env, sto, A, o⟩ := h
  unfold evS at o
  refine useSD A o fun v H1 R1 d s1 g1 A1 r1 o1 => ?_
  unfold asgT at o1
  by_cases hi : i < env.length
  · rw [if_pos hi] at o1
    exact (show endS X R0 H0 R De (.nx, env.set i (.val d)) s1 from o1) _ H1 R1 (A1.set hi r1) g1.le
  · rw [if_neg hi] at o1; exact o1.elim
theorem set_own {i : Nat} {f : E} {De : Ends} {σ : L2.St} {H : Hp} (h : tS X W R0 H0 (evS cl w (.asgOwn i f)) De σ H) : tN X W (evE cl f) σ H fun x H1 => De.nx (σ.set i (some x)) H1 := by
  obtain ⟨R, env, sto, A, o⟩ := h
  unfold evS at o
  refine ⟨R, env, sto, A.S, A.E, (Out.bind o).imp (fun d s' o1 => ?_) (wS_wE A.g)⟩
  split at o1
  · rename_i xs
    refine ⟨xs, rfl, fun a H' R' g S' hn F => ?_⟩
    split at o1
    · rename_i hi'
      obtain ⟨vs, e, r⟩ := F.at_
      have q := (show endS X R0 H0 R De (.nx, env.set i (.own xs)) s' from o1)
      refine q _ H' R' ((A.grow g S').setOwn hi' e F.fz F.bz F.mu (h0_none A.g hn) r fun j s _ e1 e2 => sep_new A.E hn j s e1 e2) g.le
    · exact o1.elim
  · exact o1.elim
section
variable {i : Nat} {y : Str} {py spos : Pos} {elt tg iter tg1 iter1 : Expr} {ifs ifs1 : List Expr} {scope : Scope} {ownp : List (Str × Nat)} {t t1 : T} {k k1 : Itb} {it cs it1 cs1 : Es} {e : E} {vs1 : List Nat}
theorem dt_setLc (hK : X.K = C.K) (hc : C.calm = true) (hN : C.N.Nodup) (hy : C.N[i]? = some y) (hyl : C.env.scope.names.lookup y = some .local) (hsw : swapsWith (.ListComp elt [⟨tg, iter, ifs, 0⟩] scope pos) (some (.Name y py)) spos.line C.env = pure true)
    (hi : PI C tg iter (tI X W true fun env => (evEs cl it env).bind (itD k))) (ok : BlkOk C.N C.env.scope scope ownp)
    (hg : ∀ s H A c fp, PG (Cb C s H scope A c fp) tg (tG X (tvs t) (asgT cl t))) (hns : ∀ n ∈ tvs t, n ∈ ownp.map (·.2)) (ht : ∀ s H A c fp, PTs (Cb C s H scope A c fp) ifs (tB X W0 (evCs cl cs)))
    (he : ∀ s H A c fp, PE (Cb C s H scope A c fp) elt (tD X W0 (evE cl e))) (hs : ∀ x, foldedSetIterable iter C.env x = pure x) :
    PS C (.Assign [.Name y py] (.ListComp elt [⟨tg, iter, ifs, 0⟩] scope pos) spos) (tS X W R0 H0 (evS cl w (.asg (.nm i) (.lc t k it cs e (ownp.map (·.2)))))) :=
  (ps_setLc hc hN hy hyl hsw hi ok hg ht he hs).weak fun De σ H h => lc_read (tN_tD (fun _ _ _ _ => lc_lst) (set_val h)) hns
theorem dt_ownLc (hK : X.K = C.K) (hc : C.calm = true) (hN : C.N.Nodup) (hy : C.N[i]? = some y) (hyl : C.env.scope.names.lookup y = some .local) (hsw : swapsWith (.ListComp elt [⟨tg, iter, ifs, 0⟩] scope pos) (some (.Name y py)) spos.line C.env = pure true)
    (hi : PI C tg iter (tI X W true fun env => (evEs cl it env).bind (itD k))) (ok : BlkOk C.N C.env.scope scope ownp)
    (hg : ∀ s H A c fp, PG (Cb C s H scope A c fp) tg (tG X (tvs t) (asgT cl t))) (hns : ∀ n ∈ tvs t, n ∈ ownp.map (·.2)) (ht : ∀ s H A c fp, PTs (Cb C s H scope A c fp) ifs (tB X W0 (evCs cl cs)))
    (he : ∀ s H A c fp, PE (Cb C s H scope A c fp) elt (tD X W0 (evE cl e))) (hs : ∀ x, foldedSetIterable iter C.env x = pure x) :
    PS C (.Assign [.Name y py] (.ListComp elt [⟨tg, iter, ifs, 0⟩] scope pos) spos) (tS X W R0 H0 (evS cl w (.asgOwn i (.lc t k it cs e (ownp.map (·.2)))))) :=
  (ps_setLc hc hN hy hyl hsw hi ok hg ht he hs).weak fun De σ H h => lc_read (set_own h) hns
theorem dt_setLc2 (hK : X.K = C.K) (hc : C.calm = true) (hN : C.N.Nodup) (hy : C.N[i]? = some y) (hyl : C.env.scope.names.lookup y = some .local) (hsw : swapsWith (.ListComp elt [⟨tg, iter, ifs, 0⟩, ⟨tg1, iter1, ifs1, 0⟩] scope pos) (some (.Name y py)) spos.line C.env = pure true)
    (hi : PI C tg iter (tI X W true fun env => (evEs cl it env).bind (itD k))) (ok : BlkOk C.N C.env.scope scope ownp) (hv : ∀ i ∈ vs1, i ∈ ownp.map (·.2))
    (hg : ∀ s H A c fp, PG (Cb C s H scope A c fp) tg (tG X (tvs t) (asgT cl t))) (hns : ∀ n ∈ tvs t, n ∈ ownp.map (·.2)) (ht : ∀ s H A c fp, PTs (Cb C s H scope A c fp) ifs (tB X W0 (evCs cl cs)))
    (hi1 : ∀ s H A c fp, PI (Cb C s H scope A c fp) tg1 iter1 (tI X W0 false fun env => (evEs cl it1 env).bind (itD k1))) (hg1 : ∀ s H A c fp, PG (Cb C s H scope A c fp) tg1 (tG X (tvs t1) (asgT cl t1))) (hns1 : ∀ n ∈ tvs t1, n ∈ vs1)
    (ht1 : ∀ s H A c fp, PTs (Cb C s H scope A c fp) ifs1 (tB X W0 (evCs cl cs1))) (he : ∀ s H A c fp, PE (Cb C s H scope A c fp) elt (tD X W0 (evE cl e)))
    (hs : ∀ x, foldedSetIterable iter C.env x = pure x) (hs1 : ∀ env x, foldedSetIterable iter1 env x = pure x) :
    PS C (.Assign [.Name y py] (.ListComp elt [⟨tg, iter, ifs, 0⟩, ⟨tg1, iter1, ifs1, 0⟩] scope pos) spos) (tS X W R0 H0 (evS cl w (.asg (.nm i) (.lc2 t k it cs t1 k1 it1 cs1 e (ownp.map (·.2)) vs1)))) :=
  (ps_setLc2 hc hN hy hyl hsw hi ok hv hg ht hi1 hg1 ht1 he hs hs1).weak fun De σ H h => lc2_read (tN_tD (fun _ _ _ _ => lc2_lst) (set_val h)) hns hns1
end
end
end Bc

set_option linter.all false
set_option autoImplicit false
set_option maxRecDepth 100000
set_option maxHeartbeats 1000000
namespace Bc
open PySem PySem.Spec L2

section
variable {X : Sx} {W : WD} {C : Cx} {pos : Pos} {cl : Cl}
/-! ### (*xs, y) -/
theorem dx_star {e : Expr} {es : List Expr} {p : Pos} {f : Env → M Bc.D} {g : Env → M (List Bc.D)} (hK : X.K = C.K) (ha : PE C e (tT X W f)) (hr : PA C es (tDs X W g)) :
    PA C (.Starred e p :: es) (tDs X W fun env => (f env).bind fun x => (ofOpt (asSeq x)).bind fun xs => (g env).bind fun ys => M.pure (xs ++ ys)) := by
  refine (StX.pa_star ha hr rfl).weak fun σ H Q ⟨R, env, sto, S, E, o⟩ => ?_
  refine useT S E o fun v H1 R1 d s1 g1 S1 E1 r1 o1 => ?_
  obtain ⟨xs, e1, o2⟩ := o1.ofOptB
  obtain ⟨a, vs, rfl, hs, rs⟩ := r1.seq S1 e1
  refine ⟨a, vs, rfl, hK ▸ hs.symm, ?_⟩
  have o2 : Out (wE X W R1 H1 σ) (((g env).bind fun ys => M.pure (xs ++ ys)) s1) _ := o2.imp (fun _ _ q => q) (wE_on g1)
  refine useDs S1 E1 o2 fun ws H2 R2 ds s2 g2 S2 E2 r2 o3 => ?_
  exact o3.pure _ H2 R2 (g1.trans g2) S2 ((Reps.mono g2.le _ rs).append r2)
theorem dxT_star {e : Expr} {es : List Expr} {p : Pos} {f : Env → M Bc.D} {g : Env → M (List Bc.D)} (hK : X.K = C.K) (ha : PE C e (tT X W f)) (hr : PA C es (tTs X W g)) :
    PA C (.Starred e p :: es) (tTs X W fun env => (f env).bind fun x => (ofOpt (asSeq x)).bind fun xs => (g env).bind fun ys => M.pure (xs ++ ys)) := by
  refine (StX.pa_star ha hr rfl).weak fun σ H Q ⟨R, env, sto, S, E, o⟩ => ?_
  refine useT S E o fun v H1 R1 d s1 g1 S1 E1 r1 o1 => ?_
  obtain ⟨xs, e1, o2⟩ := o1.ofOptB
  obtain ⟨a, vs, rfl, hs, rs⟩ := r1.seq S1 e1
  refine ⟨a, vs, rfl, hK ▸ hs.symm, ?_⟩
  have o2 : Out (wE X W R1 H1 σ) (((g env).bind fun ys => M.pure (xs ++ ys)) s1) _ := o2.imp (fun _ _ q => q) (wE_on g1)
  refine useTs S1 E1 o2 fun ws H2 R2 ds s2 g2 S2 E2 r2 o3 => ?_
  have app : ∀ {vs : List V} {xs : List Bc.D} {ws : List V} {ys : List Bc.D}, Reps X R2 vs xs → RepTs X R2 H2 ws ys → RepTs X R2 H2 (vs ++ ws) (xs ++ ys) := by
    intro vs xs ws ys a b
    induction xs generalizing vs with
    | nil => cases a; exact b
    | cons d ds ih => cases a with | cons a1 a2 => exact .cons (.inl a1) (ih a2)
  exact o3.pure _ H2 R2 (g1.trans g2) S2 (app (Reps.mono g2.le _ rs) r2)
/-! ### a dict of the module -/
/-- the written dict at p holds tab -/
structure KTab (X : Sx) (K : PySem.W.Frag) (w : World) (p : Addr) (tab : List (Str × Bc.D)) : Prop where
  at_ : ∃ es n, K.lookup p = some ⟨.type "dict", none, .dict es n, #[]⟩ ∧ PySem.W.KeysLit w.params es.toList
  low : (p == sysModules) = false
  val : ∀ z, (tab.lookup z = none ∧ PySem.W.nsIn K p z = some none) ∨ ∃ d v u, tab.lookup z = some d ∧ PySem.W.nsIn K p z = some (some u) ∧ RelV v u ∧ ∀ R, Rep X R v d
def tKget (K : PySem.W.Frag) (p : Addr) (ta tb : TE) : TE := fun σ H Q => ta σ H fun y H1 => tb σ H1 fun z H2 => ∃ (k : Str) (o : Option V), y = .str k ∧ ((o = none ∧ PySem.W.nsIn K p k = some none) ∨ ∃ v u, o = some v ∧ PySem.W.nsIn K p k = some (some u) ∧ RelV v u) ∧ Q (o.getD z) H2
theorem pe_kget {x : Str} {a b : Expr} {np apos cpos : Pos} {p : Addr} {es : Array DictEntry} {n : Nat} {ta tb : TE} (hg : Gl C x) (hm : C.mg x = some (.ref p)) (hd : (x == ("__debug__" : Str)) = false) (hl : C.K.lookup p = some ⟨.type "dict", none, .dict es n, #[]⟩) (hk : PySem.W.KeysLit C.w.params es.toList) (low : (p == sysModules) = false)
    (ha : PE C a ta) (hb : PE C b tb) (m : M2 C (.Name x np) "get" apos a b cpos) : PE C (.Call (.Attribute (.Name x np) "get" apos) [a, b] [] cpos) (tKget C.K p ta tb) := by
  refine ⟨fun pins s σ H Q I h => ?_⟩
  refine wpAny_Call_method m.base m.few m.line PySem.F.plainAttrs_dict PySem.F.slot_dict_get PySem.F.type_dict_get (thn ((pe_glob (v := .ref p) hg hm rfl hd).run pins s σ H (fun v H1 => v = .ref p ∧ H1 = H) I ⟨rfl, rfl⟩) fun u s1 ⟨x, H1, I1, rx, ex, eH⟩ => ?_)
  subst ex
  subst eH
  obtain rfl : u = Value.ref p := rx
  have hM := PySem.W.mapOf_K (prog := C.prog) (w := C.w) I1.kIn hl hk
  refine ⟨hM.typeIs, fun b q => by cases q; exact ⟨_, I1.kIn _ _ hl, rfl⟩, ?_⟩
  rw [m.trees]
  refine Calls.callWith_builtin rfl (Calls.evalArgs_plain (Calls.spliced_cons (thn (ha.run pins s1 σ H1 _ I1 h) fun iv s2 ⟨y, H2, I2, ry, q2⟩ =>
    Calls.spliced_cons (thn (hb.run pins s2 σ H2 _ I2 q2) fun fv s3 ⟨z, H3, I3, rz, k, o, ey, ho, q3⟩ => Calls.spliced_nil ?_))))
  subst ey
  obtain ⟨t, rfl⟩ := (show ∃ t, iv = Value.str k t from ry)
  have hM3 := PySem.W.mapOf_K (prog := C.prog) (w := C.w) I3.kIn hl hk
  refine call_meetsIn PySem.F.slot_dict_get hM3.typeIs PySem.F.entry_dict_get (PySem.F.args_dict_get_3 _ _ _) (meets_dict_get_default (strKind C.prog C.w) p (strKind_is C.prog C.w k t) low fv) ⟨_, hM3, ?_⟩
  rcases ho with ⟨rfl, e⟩ | ⟨v, u, rfl, e, r⟩
  · rw [PySem.W.find_K hl e]
    exact ⟨z, H3, I3.tok _, rz, q3⟩
  · rw [PySem.W.find_K hl e]
    exact ⟨v, H3, I3.tok _, r, q3⟩
theorem dx_kget {x : Str} {a b : Expr} {np apos cpos : Pos} {tab : List (Str × Bc.D)} {p : Addr} {fa fb : Env → M Bc.D} (hg : Gl C x) (hm : C.mg x = some (.ref p)) (hd : (x == ("__debug__" : Str)) = false) (T : KTab X C.K C.w p tab) (ha : PE C a (tT X W fa)) (hb : PE C b (tD X W fb))
    (m : M2 C (.Name x np) "get" apos a b cpos) : PE C (.Call (.Attribute (.Name x np) "get" apos) [a, b] [] cpos) (tD X W fun env => (fa env).bind fun x => (fb env).bind fun y => match x with
      | .str z => M.pure ((tab.lookup z).getD y)
      | _ => stuck) := by
  obtain ⟨es, n, hl, hk⟩ := T.at_
  refine (pe_kget hg hm hd hl hk T.low ha hb m).weak fun σ H Q ⟨R, env, sto, S, E, o⟩ => ?_
  refine useT S E o fun v H1 R1 d s1 g1 S1 E1 r1 o1 => ?_
  have o1 : Out (wE X W R1 H1 σ) (((fb env).bind fun y => match d with
      | .str z => M.pure ((tab.lookup z).getD y)
      | _ => stuck) s1) _ := o1.imp (fun _ _ q => q) (wE_on g1)
  refine useD S1 E1 o1 fun v2 H2 R2 d2 s2 g2 S2 E2 r2 o2 => ?_
  cases d with
  | str z =>
    have q := Out.pure o2
    rw [r1.str]
    rcases T.val z with ⟨e1, e2⟩ | ⟨d', v', u', e1, e2, rl, rp⟩
    · rw [e1] at q
      exact ⟨z, none, rfl, .inl ⟨rfl, e2⟩, q v2 H2 R2 (g1.trans g2) S2 r2⟩
    · rw [e1] at q
      exact ⟨z, some v', rfl, .inr ⟨v', u', rfl, e2, rl⟩, q v' H2 R2 (g1.trans g2) S2 (rp R2)⟩
  | _ => exact o2.elim
/-! ### {(x, y): z for ..}, at a name of its own line -/
/-- d[b] = v in a comprehension, b a tuple -/
theorem set_tup {C : Cx} {pins : List (Addr × Obj)} {σ : L2.St} {H : Hp} {s : Shared} {E : Value → Shared → Prop} {a b : Addr} {kvs : List (List L2.Key × V)} {k : List L2.Key} {v : V} {r : Value} {Q : Unit → Shared → Prop} (hu : C.A.units + 1 < cLine) (I : L2.Inv C pins σ H s) (e : H a = some (.dT kvs)) (eb : H b = some (.tup (k.map kV))) (l : kvs.length < sizeLine)
    (rv : RelV v r) (h : ∀ s', L2.Inv C pins σ (upd H a (.dT (putK kvs k v))) s' → Q () s') : wpAny (model C.prog C.w) C.A (dictSet a (.ref b) r) Q E s := by
  obtain ⟨z, hd, xs, rel, dd⟩ := dt_of I.hok e
  have hl : (putK kvs k v).length ≤ sizeLine := by have := length_putK kvs k v; omega
  refine wpAny_dictSet_heap (hsz := by rw [← Paired.length rel]; exact z) (show C.A.units < cLine by omega) (key_of I.hok eb) dd fun h' dd' hs => h _ ?_
  obtain ⟨q, es, ep, hq, h2, h3, h4, _, h5⟩ := dd'
  refine d_write I (by rw [e]; exact True.intro) hs ⟨q, hq⟩ ⟨hl, hd, _, (rel.put k eb rv).keeps fun c ys ec => ?_, q, es, ep, hq, h2, h3, h4, h5⟩
  rw [upd_ne (ne_of ec e (fun z => nomatch z))]
  exact ec
/-- its reading: D the new dict -/
def tDcT (wi : TI) (g : TG) (tt : TT) (tk tv : TE) (vs : List Nat) : TE := fun σ H Q => wi σ H fun J H1 => ∀ D, H1 D = none → ∃ W : Nat → Nat → Hp → Prop, (∃ m, W 0 m (upd H1 D (.dT []))) ∧ ∀ i m H, W i m H →
  (J.stop i H ∧ Q (.ref D) H) ∨ (J.go i H ∧ ∃ Nx : Hp → Prop, (∀ H', Nx H' → ∃ m', m' < m ∧ W (i + 1) m' H') ∧ ∀ x H', J.yld i H x H' → g x (L2.wipe σ vs) H' fun σ2 H2 => L2.wipe σ2 vs = L2.wipe σ vs ∧ tt σ2 H2 fun b H3 =>
    if b = true then tk σ2 H3 fun y H4 => tv σ2 H4 fun z H5 => ∃ (kvs : List (List L2.Key × V)) (k : List L2.Key) (b : Addr), y = .ref b ∧ H5 b = some (.tup (k.map kV)) ∧ H5 D = some (.dT kvs) ∧ kvs.length < sizeLine ∧ Nx (upd H5 D (.dT (putK kvs k z))) else Nx H3)
section
variable {C : Cx} {kx vx tg iter : Expr} {ifs : List Expr} {scope : Scope} {ownp : List (Str × Nat)} {pos pos' : Pos} {wi : TI} {g : TG} {tt : TT} {tk tv : TE}
/-- the block runs; behind it hRR -/
theorem dcT_run {pins : List (Addr × Obj)} {s : Shared} {σ : L2.St} {H : Hp} {Q : VK} {use : Option (Value → Sem Unit)} {Qf : Value → Shared → Prop} (hu : C.A.units + 1 < cLine)
    (hc : C.calm = true) (hN : C.N.Nodup) (I : L2.Inv C pins σ H s) (hi : PI C tg iter wi) (ok : BlkOk C.N C.env.scope scope ownp)
    (hg : ∀ s H A c fp, PG (Cb C s H scope A c fp) tg g) (ht : ∀ s H A c fp, PTs (Cb C s H scope A c fp) ifs tt) (hk : ∀ s H A c fp, PE (Cb C s H scope A c fp) kx tk) (hv : ∀ s H A c fp, PE (Cb C s H scope A c fp) vx tv)
    (hs : ∀ x, foldedSetIterable iter C.env x = pure x) (h : tDcT wi g tt tk tv (ownp.map (·.2)) σ H Q)
    (hRR : ∀ D A s' m H', L2.Inv C pins σ H' s' → Q (.ref D) H' → s'.heap.Ns A m → FpOk C pins H' A → compPost (model C.prog C.w) C.A C.xe use Qf (.ref D) A (.ok .next) s') :
    wpAny (model C.prog C.w) C.A (comprehension (.DictComp kx vx [⟨tg, iter, ifs, 0⟩] scope pos) scope C.env pos' newDict false (eval iter C.env) use) Qf C.xe s := by
  refine wpAny_comprehension_free (use := use) rfl hs (closure_ok fun y hy e => (ok.free y hy e).elim (fun k => I.ok.has _ (.inl k)) fun k => I.ok.has _ (.inr k)) ok.kind (fun y hy e => by rw [ok.uniq y hy, e])
    (thn (hi.run pins s σ H _ I h) fun xv s1 hx => thn hx fun itv s2 ⟨it, fp, tn, J, H2, e, I2, T, st2, f2, q⟩ => ?_)
  subst e
  refine wpAny_newObj_type (newEnv_comp ?_)
  have fr2 : H2 s2.heap.objs.size = none := I2.hok.fresh (Nat.le_refl _)
  obtain ⟨W, ⟨m0, w0⟩, turn⟩ := q s2.heap.objs.size fr2
  have I3 : L2.Inv C pins σ (upd H2 s2.heap.objs.size (.dT [])) { s2 with heap := s2.heap.push { cls := .type "dict", data := .dict #[] } } :=
    I2.laid (t' := s2.toks) (fun b o e => Heap.get?_push_of_some _ e) (Nat.le_refl _) (dt_empty s2.heap I2.big)
  have f3 : ∀ b ∈ fp, FpOk C pins (upd H2 s2.heap.objs.size (.dT [])) b ∧ b < (s2.heap.push { cls := .type "dict", data := .dict #[] }).objs.size := fun b hb => by
    obtain ⟨o, e, _⟩ := T.obj _ _ st2 b hb
    have hlt := Heap.lt_size e
    exact ⟨⟨by rw [upd_ne (Nat.ne_of_lt hlt)]; exact (f2 b hb).1, (f2 b hb).2⟩, by rw [Heap.size_push]; exact Nat.lt_succ_of_lt hlt⟩
  generalize hD : s2.heap.objs.size = D at *
  generalize hs3 : ({ s2 with heap := s2.heap.push { cls := .type "dict", data := .dict #[] } } : Shared) = s3 at I3
  have h3 : s3.heap = s2.heap.push { cls := .type "dict", data := .dict #[] } := by rw [← hs3]
  rw [← h3] at f3
  have st3 : tn 0 s3.heap := T.keep _ _ _ st2 fun b _ o e => by rw [h3]; exact Heap.get?_push_of_some _ e
  have I4 := block_start I3 ok hN f3
  have pg : PG (C.blk s3 (upd H2 D (.dT [])) scope (compEnvC scope (cellsFrom (s3.heap.objs.size + 1) scope.names (cloFrom C.env.cells scope.names [])) s3.heap.objs.size C.env) fp) tg g := hg s3 (upd H2 D (.dT [])) s3.heap.objs.size (cellsFrom (s3.heap.objs.size + 1) scope.names (cloFrom C.env.cells scope.names [])) fp
  have pt : PTs (C.blk s3 (upd H2 D (.dT [])) scope (compEnvC scope (cellsFrom (s3.heap.objs.size + 1) scope.names (cloFrom C.env.cells scope.names [])) s3.heap.objs.size C.env) fp) ifs tt := ht s3 (upd H2 D (.dT [])) s3.heap.objs.size (cellsFrom (s3.heap.objs.size + 1) scope.names (cloFrom C.env.cells scope.names [])) fp
  have pk : PE (C.blk s3 (upd H2 D (.dT [])) scope (compEnvC scope (cellsFrom (s3.heap.objs.size + 1) scope.names (cloFrom C.env.cells scope.names [])) s3.heap.objs.size C.env) fp) kx tk := hk s3 (upd H2 D (.dT [])) s3.heap.objs.size (cellsFrom (s3.heap.objs.size + 1) scope.names (cloFrom C.env.cells scope.names [])) fp
  have pv : PE (C.blk s3 (upd H2 D (.dT [])) scope (compEnvC scope (cellsFrom (s3.heap.objs.size + 1) scope.names (cloFrom C.env.cells scope.names [])) s3.heap.objs.size C.env) fp) vx tv := hv s3 (upd H2 D (.dT [])) s3.heap.objs.size (cellsFrom (s3.heap.objs.size + 1) scope.names (cloFrom C.env.cells scope.names [])) fp
  show codeAny _ _ (.compStart (.DictComp kx vx [⟨tg, iter, ifs, 0⟩] scope pos) 0 (.ref it) (.ref D) (compEnvC scope (cellsFrom (s3.heap.objs.size + 1) scope.names (cloFrom C.env.cells scope.names [])) s3.heap.objs.size C.env)) (compPost (model C.prog C.w) C.A C.xe use Qf (.ref D) s3.heap.objs.size) _
  have nfp : ∀ b ∈ fp, (upd H2 D (.dT [])) b = none := fun b hb => (f3 b hb).1.1
  generalize hce : compEnvC scope (cellsFrom (s3.heap.objs.size + 1) scope.names (cloFrom C.env.cells scope.names [])) s3.heap.objs.size C.env = ce at I4 pg pt pk pv ⊢
  have cL : ce.locals = s3.heap.objs.size := by subst hce; rfl
  generalize hH3 : upd H2 D (.dT []) = H3 at I3 I4 pg pt pk pv w0 nfp f3
  generalize hs4 : ({ s3 with heap := pushCells (s3.heap.push { cls := .type "dict", data := .dict #[] }) scope.names } : Shared) = s4 at I4 ⊢
  have st4 : tn 0 s4.heap := T.keep _ _ _ st3 fun b _ o e => by rw [← hs4]; exact pushCells_keeps _ _ _ _ (Heap.get?_push_of_some _ e)
  -- the iterator's objects within the block
  have own : ∀ {σ' : L2.St} {H' : Hp} {s' : Shared}, L2.Inv (C.blk s3 H3 scope ce fp) [] σ' H' s' → (∀ b ∈ fp, H' b = none) → ∀ b ∈ fp, FpOk (C.blk s3 H3 scope ce fp) [] H' b := fun I' hn b hb =>
    ⟨hn b hb, (I'.ok.exf b hb).1, I'.ok.exfs b hb, .inl hb, fun x c e => (I'.ok.exf b hb).2 x c e, fun p hp => absurd (show p ∈ ([] : List (Addr × Obj)) ++ [] from hp) (by simp)⟩
  have loop : codeAny (model C.prog C.w) C.A (.compLoop (.DictComp kx vx [⟨tg, iter, ifs, 0⟩] scope pos) 0 (.ref it) (.ref D) ce) (compPost (model C.prog C.w) C.A C.xe use Qf (.ref D) s3.heap.objs.size) s4 := by
    refine compLoop_anyD (fun n s' => ∃ i H', L2.Inv (C.blk s3 H3 scope ce fp) [] (L2.wipe σ (ownp.map (·.2))) H' s' ∧ tn i s'.heap ∧ (∀ b ∈ fp, H' b = none) ∧ W i n H') ?_ m0 ⟨0, H3, I4, st4, nfp, w0⟩
    rintro n s5 ⟨i, H5, I5, st5, n5, w5⟩
    rcases turn i n H5 w5 with ⟨stop, qq⟩ | ⟨go, Nx, hNx, step⟩
    · refine thnF (T.done (C.blk s3 H3 scope ce fp) rfl rfl rfl hc i [] s5 _ H5 (fun _ _ => False) I5 (own I5 n5) st5 stop) fun r s6 ⟨hr, I6⟩ => ?_
      subst hr
      have back : L2.Inv C pins σ H5 s6 := I3.call' (ch := fp) I6.os I6.base I6.hok I6.bare fun b hb => ⟨(f3 b hb).1.2.2.2.1, (f3 b hb).1.2.1, (f3 b hb).1.2.2.2.2.1, (f3 b hb).1.2.2.2.2.2⟩
      have nL : H5 s3.heap.objs.size = none := cL ▸ (show H5 ce.locals = none from I6.free)
      obtain ⟨m, hn, _⟩ := I6.loc
      exact hRR D s3.heap.objs.size s6 m H5 back qq (cL ▸ (show s6.heap.Ns ce.locals m from hn)) (I3.fpOk (Nat.le_refl _) nL)
    · refine thnF (T.item (C.blk s3 H3 scope ce fp) rfl rfl rfl hc i [] s5 _ H5 (fun _ _ => False) I5 (own I5 n5) st5 go) fun r s6 ⟨u, hr, h6⟩ => ?_
      subst hr
      refine thnF h6 fun _ s7 ⟨x, H7, I7, r7, y7, st7, n7⟩ => ?_
      refine thnF (pg.run _ s7 _ H7 x u _ (I7.pinned (own I7 n7) (T.obj _ _ st7)) r7 (step x H7 y7)) fun _ s8 ⟨σ8, H8, I8, hw8, q8⟩ => ?_
      refine thnF (pt.run _ s8 σ8 H8 _ I8 q8) fun b s9 ⟨H9, I9, q9⟩ => ?_
      have next : ∀ {s' : Shared} {H' : Hp}, L2.Inv (C.blk s3 H3 scope ce fp) ([] ++ pinsAt fp s7.heap) σ8 H' s' → Nx H' → ∃ m, m < n ∧ ∃ i H', L2.Inv (C.blk s3 H3 scope ce fp) [] (L2.wipe σ (ownp.map (·.2))) H' s' ∧ tn i s'.heap ∧ (∀ b ∈ fp, H' b = none) ∧ W i m H' := fun {s' H'} I' nx => by
        obtain ⟨m', hm, w'⟩ := hNx H' nx
        have pin' : ∀ b ∈ fp, ∀ o, s7.heap.get? b = some o → s'.heap.get? b = some o ∧ H' b = none := fun b hb o e =>
          let z := I'.pin (b, o) (List.mem_append_right _ (List.mem_append_right _ (mem_pinsAt hb e)))
          ⟨z.1, z.2.1⟩
        refine ⟨m', hm, i + 1, H', (I'.unpinned (pins := [])).weak (by rw [← hw8, L2.wipe_length]) (fun j v e => ?_), T.keep _ _ _ st7 fun b hb o e => (pin' b hb o e).1, fun b hb => ?_, w'⟩
        · rw [← hw8] at e
          exact (wipe_some e).1
        · obtain ⟨o, e, _⟩ := T.obj _ _ st7 b hb
          exact (pin' b hb o e).2
      cases b with
      | false => exact next I9 q9
      | true =>
        simp only [if_true] at q9 ⊢
        refine thnF (pk.run _ s9 σ8 H9 _ I9 q9) fun z s10 ⟨yk, H10, I10, r10, q10⟩ => ?_
        refine thnF (pv.run _ s10 σ8 H10 _ I10 q10) fun z2 s11 ⟨yv, H11, I11, r11, kvs, k, b, ek, hb11, hD11, hz11, nx⟩ => ?_
        subst ek
        obtain rfl : z = Value.ref b := r10
        exact set_tup (C := C.blk s3 H3 scope ce fp) hu I11 hD11 hb11 hz11 r11 fun s12 I12 => next I12 nx
  exact codeAny_compStart_dict loop (T.self C.A 0 _ _ _ st4 loop)
theorem ps_setDcT {i : Nat} {y : Str} {py spos : Pos} (hu : C.A.units + 1 < cLine) (hc : C.calm = true) (hN : C.N.Nodup) (hy : C.N[i]? = some y) (hyl : C.env.scope.names.lookup y = some .local)
    (hsw : swapsWith (.DictComp kx vx [⟨tg, iter, ifs, 0⟩] scope pos) (some (.Name y py)) spos.line C.env = pure true) (hi : PI C tg iter wi) (ok : BlkOk C.N C.env.scope scope ownp)
    (hg : ∀ s H A c fp, PG (Cb C s H scope A c fp) tg g) (ht : ∀ s H A c fp, PTs (Cb C s H scope A c fp) ifs tt) (hk : ∀ s H A c fp, PE (Cb C s H scope A c fp) kx tk) (hv : ∀ s H A c fp, PE (Cb C s H scope A c fp) vx tv)
    (hs : ∀ x, foldedSetIterable iter C.env x = pure x) : PS C (.Assign [.Name y py] (.DictComp kx vx [⟨tg, iter, ifs, 0⟩] scope pos) spos) (tAsg (tDcT wi g tt tk tv (ownp.map (·.2))) (gName i)) := by
  refine ⟨fun pins s σ H D I h => ?_⟩
  rw [exec_Assign_Name_used _ _ _ _ hsw]
  refine wpAny_bind (wpAny_standAt (wpAny_bind ?_))
  show wpAny _ C.A (do let _ ← comprehension (.DictComp kx vx [⟨tg, iter, ifs, 0⟩] scope pos) scope C.env (firstIterPos [⟨tg, iter, ifs, 0⟩] pos) newDict false (eval iter C.env) (some (assign (.Name y py) C.env))) _ _ s
  have h : tDcT wi g tt tk tv (ownp.map (·.2)) σ H (fun x H1 => gName i x σ H1 D.nx) := h
  refine wpAny_bind (thn (dcT_run (Qf := fun _ s' => SP C pins D .next s') hu hc hN I hi ok hg ht hk hv hs h fun L A s' m H' I' q hn f => ?_) fun _ s' hq => wpAny_pure (wpAny_pure hq))
  show wpAny _ _ (assign (.Name y py) C.env (.ref L)) _ _ _
  refine wpAny_assign_Name (store_ok2 (v := V.ref L) I' hN hy (.inl hyl) rfl (fun s2 I2 ⟨a, sb, ha⟩ => ?_) (.inr hyl))
  obtain ⟨f0, f1, f2, f3, f4, f5⟩ := f
  refine ⟨m, hn.sameBut sb ?_, fun h3 sb3 => ⟨_, H', I2.turned (t' := s2.toks) (fun b o hb e => (sb3.2 b hb).trans e) f0 f1 f3 f4 f5, q⟩⟩
  rcases ha with z | z
  · rw [z]; exact f1
  · exact fun e => f4 y a z e.symm
end
end
/-! ### what it reads -/
section
variable {X : Sx} {W : WD} {C : Cx}
theorem Rept.any {R : Rl} (k : List L2.Key) : ∀ {vs : List (List L2.Key × V)} {ds : List (List L2.Key × Bc.D)}, Rept X R vs ds → (vs.any fun kv => decide (kv.1 = k)) = ds.any fun kv => decide (kv.1 = k)
  | _, _, .nil => rfl
  | _, _, .cons r t => by rw [List.any_cons, List.any_cons, t.any k]
theorem Rept.repl {R : Rl} {x : V} {d : Bc.D} (k : List L2.Key) (r : Rep X R x d) : ∀ {vs : List (List L2.Key × V)} {ds : List (List L2.Key × Bc.D)}, Rept X R vs ds → Rept X R (vs.map fun kv => if kv.1 = k then (kv.1, x) else kv) (ds.map fun kv => if kv.1 = k then (kv.1, d) else kv)
  | _, _, .nil => .nil
  | _, _, .cons (k := j) q t => by
    rw [List.map_cons, List.map_cons]
    by_cases h : j = k
    · rw [if_pos h, if_pos h]; exact .cons r (t.repl k r)
    · rw [if_neg h, if_neg h]; exact .cons q (t.repl k r)
theorem Rept.snoc {R : Rl} {x : V} {d : Bc.D} (k : List L2.Key) (r : Rep X R x d) : ∀ {vs : List (List L2.Key × V)} {ds : List (List L2.Key × Bc.D)}, Rept X R vs ds → Rept X R (vs ++ [(k, x)]) (ds ++ [(k, d)])
  | _, _, .nil => .cons r .nil
  | _, _, .cons q t => .cons q (t.snoc k r)
theorem Rept.put {R : Rl} {x : V} {d : Bc.D} {vs : List (List L2.Key × V)} {ds : List (List L2.Key × Bc.D)} (k : List L2.Key) (r : Rep X R x d) (h : Rept X R vs ds) : Rept X R (putK vs k x) (dPut ds k d) := by
  unfold putK dPut
  rw [h.any k]
  split
  · exact h.repl k r
  · exact h.snoc k r
theorem Rept.length {R : Rl} : ∀ {vs : List (List L2.Key × V)} {ds : List (List L2.Key × Bc.D)}, Rept X R vs ds → vs.length = ds.length
  | _, _, .nil => rfl
  | _, _, .cons _ t => congrArg Nat.succ t.length
/-- a fresh dict that is being filled -/
structure FillT (X : Sx) (R : Rl) (H : Hp) (D : Addr) (acc : List (List L2.Key × Bc.D)) : Prop where
  at_ : ∃ vs, H D = some (.dT vs) ∧ Rept X R vs acc
  fz : R.Fz D = none
  bz : R.Bz D = none
  mu : D ∉ R.mu
theorem FillT.grow {R R' : Rl} {H H' : Hp} {D : Addr} {acc : List (List L2.Key × Bc.D)} (g : Grow R H R' H') (f : FillT X R H D acc) : FillT X R' H' D acc := by
  obtain ⟨vs, e, r⟩ := f.at_
  obtain ⟨k1, k2⟩ := g.kept D _ e f.mu
  exact ⟨⟨vs, k1, Rept.mono g.le _ r⟩, k2.trans f.fz, by rw [g.eB]; exact f.bz, g.notmu e f.mu⟩
/-- whatever stands at D is frozen -/
theorem freeze_at {R0 R : Rl} {H0 H : Hp} {sto : Sto} {D : Addr} {o : HO} (fz : R.Fz D = none) (mu : D ∉ R.mu) (e : H D = some o) (S : StOk X R H sto) (g : Grow R0 H0 R H) (h : H0 D = none) :
    RLe R (R.put D o) ∧ Grow R0 H0 (R.put D o) H ∧ StOk X (R.put D o) H sto := by
  have le : RLe R (R.put D o) := put_le fz
  have hp : ∀ a, a ≠ D → (R.put D o).Fz a = R.Fz a := fun a z => upd_ne z
  have hD : (R.put D o).Fz D = some o := upd_same
  refine ⟨le, ⟨g.le.trans le, g.eB, fun a o e1 m => ?_, g.muN, g.there⟩, ⟨fun a o e1 => ?_, S.bz, S.len, S.nd, fun n a ds e1 e2 => ?_⟩⟩
  · obtain ⟨k1, k2⟩ := g.kept a o e1 m
    exact ⟨k1, by rw [hp a (ne_of_none e1 h)]; exact k2⟩
  · by_cases z : a = D
    · rw [z, hD] at e1
      rw [z, e]; exact e1
    · rw [hp a z] at e1; exact S.fz a o e1
  · obtain ⟨f', b', nb, ws, e3, r⟩ := S.at_ n a ds e1 e2
    refine ⟨by rw [hp a (fun z => mu (z ▸ List.mem_of_getElem? e1))]; exact f', b', nb, ws, e3, ?_⟩
    exact Reps.mono (R := { R with Bz := fun _ => none }) (R' := { R.put D o with Bz := fun _ => none }) ⟨le.fz, HLe.refl _, fun _ _ e => e⟩ _ r
theorem foldD_cons {f : Bc.D → M (Option (List L2.Key × Bc.D))} {x : Bc.D} {xs : List Bc.D} {acc out : List (List L2.Key × Bc.D)} {s sf : Sto} (h : foldD f (x :: xs) acc s = .ok (out, sf)) :
    ∃ o s1, f x s = .ok (o, s1) ∧ ((o = none ∧ foldD f xs acc s1 = .ok (out, sf)) ∨ ∃ p, o = some p ∧ acc.length < LINE ∧ foldD f xs (dPut acc p.1 p.2) s1 = .ok (out, sf)) := by
  unfold foldD at h
  obtain ⟨o, s1, h1, h⟩ := bind_ok h
  cases o with
  | some p =>
    obtain ⟨u, s2, h2, h⟩ := bind_ok h
    unfold need at h2
    split at h2
    · rename_i hl
      cases h2
      exact ⟨_, s1, h1, .inr ⟨p, rfl, of_decide_eq_true hl, h⟩⟩
    · cases h2
  | none => exact ⟨_, s1, h1, .inl ⟨rfl, h⟩⟩
theorem dc_read {cl : Cl} {t : T} {k : Itb} {it cs : Es} {e f : E} {vs ns : List Nat} {σ : L2.St} {H : Hp} {Q : VK} (h : tD X W (evE cl (.dcT t k it cs e f vs)) σ H Q) (hns : ∀ n ∈ ns, n ∈ vs) :
    tDcT (tI X W true fun env => (evEs cl it env).bind (itD k)) (tG X ns (asgT cl t)) (tB X W0 (evCs cl cs)) (tD X W0 (evE cl e)) (tD X W0 (evE cl f)) vs σ H Q := by
  obtain ⟨R0, env, s0, S0, E0, o⟩ := h
  unfold evE at o
  generalize hf : (fun d => (asgT cl t d (Bc.wipe env vs)).bind fun env1 => (evCs cl cs env1).bind fun b => if b then (evE cl e env1).bind fun y => (evE cl f env1).bind fun z => (ofOpt (keyT y)).bind fun k => (pure (some (k, z)) : M (Option (List L2.Key × Bc.D))) else pure none) = g at o
  have o : Out (wE X W R0 H σ) ((((evEs cl it env).bind (itD k)).bind fun items => (noX (foldD g items [])).bind fun kvs => (need (lenOk kvs.length)).bind fun _ => pure (.dT true kvs)) s0) (fun (d : Bc.D) (s' : Sto) => ∀ v H' R', Grow R0 H R' H' → StOk X R' H' s' → Rep X R' v d → Q v H') := by
    refine Out.conv ?_ o
    unfold M.bind
    cases evEs cl it env s0 <;> rfl
  refine ⟨R0, env, s0, S0, E0, (Out.bind o).imp (fun items s1 o1 J H1 R1 g1 S1 jok => ?_) fun _ _ _ w => w⟩
  intro D hD
  have o2 := Out.bind o1
  obtain ⟨out, sf, ey, o2⟩ : ∃ out sf, foldD g items [] s1 = .ok (out, sf) ∧ Out (wE X W R0 H σ) (((need (lenOk out.length)).bind fun _ => M.pure (.dT true out)) sf) (fun (d : Bc.D) (s' : Sto) => ∀ v H' R', Grow R0 H R' H' → StOk X R' H' s' → Rep X R' v d → Q v H') := by
    unfold noX at o2
    cases e1 : foldD g items [] s1 with
    | ok p => rw [e1] at o2; exact ⟨p.1, p.2, rfl, o2⟩
    | exc _ _ _ => rw [e1] at o2; exact o2.elim
    | stuck => rw [e1] at o2; exact o2.elim
  obtain ⟨hl, o3⟩ := o2.needB
  have hl := lenOk_line hl
  have E1 : EnvOk X R1 H1 σ env := E0.grow g1
  have hD1 : R1.Fz D = none := fz_none S1 hD
  have hB1 : R1.Bz D = none := bz_none S1 hD
  have hM1 : D ∉ R1.mu := mu_new S1 hD
  have hD0 : H D = none := h0_none g1 hD
  refine ⟨fun i m H' => m = items.length - i ∧ i ≤ items.length ∧ ∃ R' s' acc, Grow R1 H1 R' H' ∧ StOk X R' H' s' ∧ FillT X R' H' D acc ∧ foldD g (items.drop i) acc s' = .ok (out, sf), ⟨items.length, by simp, Nat.zero_le _, R1, s1, [], ?_, S1.at hD1 hB1 hM1, ⟨⟨[], upd_same, .nil⟩, hD1, hB1, hM1⟩, by simpa using ey⟩, ?_⟩
  · exact (Grow.refl R1 H1).at hD hM1
  rintro i m H2 ⟨rfl, hi, R2, s2, acc, g2, S2, F2, e2⟩
  by_cases hlt : i < items.length
  · refine .inr ?_
    obtain ⟨go, yl⟩ := jok.go R2 H2 s2 i items[i] (show Grow R1 H1 R2 H2 from g2) S2 (by simp [hlt])
    rw [List.drop_eq_getElem_cons hlt] at e2
    obtain ⟨ob, s3, e3, e4⟩ := foldD_cons e2
    refine ⟨go, fun H' => i + 1 ≤ items.length ∧ ∃ R' s' acc, Grow R1 H1 R' H' ∧ StOk X R' H' s' ∧ FillT X R' H' D acc ∧ foldD g (items.drop (i + 1)) acc s' = .ok (out, sf), fun H' n => ⟨items.length - (i + 1), by omega, rfl, n⟩, fun x H3 y => ?_⟩
    obtain ⟨R3, g3, S3, r3⟩ := yl x H3 y
    rw [← hf] at e3
    obtain ⟨env1, s4, e5, e3⟩ := bind_ok e3
    obtain ⟨b, s5, e6, e3⟩ := bind_ok e3
    have g13 := g2.trans g3
    refine ⟨R3, Bc.wipe env vs, s2, items[i], S3, ((E1.grow g13).wipe vs), r3, out_ok e5 fun σ4 H4 R4 g4 S4 E4 k1 _ => ?_⟩
    refine ⟨?_, R4, env1, s4, S4, E4, out_ok e6 fun H5 R5 g5 S5 => ?_⟩
    · have hl4 : σ4.length = (L2.wipe σ vs).length := by
        have a1 := E4.len
        have a2 := ((E1.grow g13).wipe vs).len
        have : env1.length = (Bc.wipe env vs).length := asgT_len (W' := noW) (k := fun _ _ => True) (by rw [e5]; trivial) e5
        omega
      have w1 := wipe_eq hl4 (vs := vs) fun i hi => k1 i fun z => hi (hns i z)
      rw [w1]; exact wipe_wipe σ vs
    · have g15 := (g13.trans g4).trans g5
      have F5 := ((F2.grow g3).grow g4).grow g5
      cases b with
      | false =>
        rw [if_neg Bool.false_ne_true] at e3
        cases e3
        refine iteF ?_
        rcases e4 with ⟨_, e4⟩ | ⟨p, z, _⟩
        · exact ⟨hlt, R5, s3, acc, g15, S5, F5, e4⟩
        · cases z
      | true =>
        rw [if_pos rfl] at e3
        refine iteT ?_
        obtain ⟨yv, s6, e7, e3⟩ := bind_ok e3
        obtain ⟨zv, s7, e8, e3⟩ := bind_ok e3
        obtain ⟨kk, s8, e9, e3⟩ := bind_ok e3
        cases e3
        cases hk : keyT yv with
        | none => rw [hk] at e9; cases e9
        | some kk' =>
          rw [hk] at e9
          cases e9
          refine ⟨R5, env1, s5, S5, E4.grow g5, out_ok e7 fun v H6 R6 g6 S6 r6 => ?_⟩
          refine ⟨R6, env1, s6, S6, (E4.grow g5).grow g6, out_ok e8 fun v2 H7 R7 g7 S7 r7 => ?_⟩
          have F7 := (F5.grow g6).grow g7
          obtain ⟨ws, ew, rw7⟩ := F7.at_
          unfold keyT at hk
          split at hk
          · rename_i xs
            obtain ⟨b, us, rfl, hb, rb⟩ := RepT.tupX S7 (.inl (r6.mono g7.le))
            rw [keys_v rb hk] at hb
            rcases e4 with ⟨z, _⟩ | ⟨p, z, hl4, e4⟩
            · cases z
            · cases z
              refine ⟨ws, kk, b, rfl, hb, ew, by rw [rw7.length, sizeLine_eq]; exact hl4, hlt, R7, s3, _, ((g15.trans g6).trans g7).at hD hM1, S7.at F7.fz F7.bz F7.mu, ⟨⟨_, upd_same, rw7.put kk r7⟩, F7.fz, F7.bz, F7.mu⟩, e4⟩
          · cases hk
  · refine .inl ⟨jok.stop R2 H2 s2 i (show Grow R1 H1 R2 H2 from g2) S2 (by omega), ?_⟩
    rw [List.drop_eq_nil_of_le (by omega)] at e2
    cases e2
    obtain ⟨vs2, ev, rv⟩ := F2.at_
    obtain ⟨le, g', S'⟩ := freeze_at F2.fz F2.mu ev S2 (g1.trans g2) hD0
    exact Out.pure (show Out _ (M.pure (Bc.D.dT true out) sf) _ from o3) (.ref D) H2 _ g' S' (.dT upd_same (Rept.mono le _ rv))
end
end Bc

set_option linter.all false
set_option autoImplicit false
set_option maxRecDepth 100000
set_option maxHeartbeats 1000000
namespace Bc
open PySem PySem.Spec L2

/-! ### what the trees look like -/
def isStar : Expr → Bool
  | .Starred .. => true
  | _ => false
theorem starEach_one {e : Expr} {es : List Expr} {env : PySem.Env} (h : isStar e = false) : starEach (e :: es) env = (false, eval e env) :: starEach es env := by
  cases e <;> first | rfl | (cases h; done)
theorem plain_star {pos : Pos} {env : PySem.Env} : ∀ {es : List Expr}, es.any isStar = false → (backTo pos (starEach es env)).any (·.1) = false
  | [], _ => rfl
  | e :: es, h => by
    have h2 : isStar e = false ∧ es.any isStar = false := by simpa using h
    rw [starEach_one h2.1]
    show (false || (backTo pos (starEach es env)).any (·.1)) = false
    rw [plain_star h2.2]; rfl
def isComp : Expr → Bool
  | .ListComp .. => true
  | .SetComp .. => true
  | .DictComp .. => true
  | _ => false
theorem swaps_no {e : Expr} {tg : Option Expr} {l : Nat} {env : PySem.Env} (h : isComp e = false) : swapsWith e tg l env = pure false := by
  cases e <;> first | rfl | (cases h; done)
theorem sole_no {tg e : Expr} {l : Nat} {env : PySem.Env} (h : isComp e = false) : swapsWithSole [tg] e l env = pure false := swaps_no h
def isName : Expr → Bool
  | .Name .. => true
  | _ => false
theorem sole_no2 {tg e : Expr} {l : Nat} {env : PySem.Env} (h : isName tg = false) : swapsWithSole [tg] e l env = pure false := by
  show swapsWith e (some tg) l env = pure false
  cases e <;> first | rfl | (cases tg <;> first | rfl | (cases h; done))
def isSlice : Expr → Bool
  | .Slice .. => true
  | _ => false
theorem plain_ix {b : Expr} (h : isSlice b = false) : PlainIx b := fun o i => by cases b <;> first | rfl | (cases h; done)
def isSet : Expr → Bool
  | .Set .. => true
  | _ => false
theorem marks_no {o : CmpOp} {e : Expr} (h : isSet e = false) : behindInMarks o e = false := by cases e <;> first | rfl | (cases h; done)
theorem folded_no {e : Expr} {env : PySem.Env} (h : isSet e = false) (x : Value) : foldedSetIterable e env x = pure x := by cases e <;> first | rfl | (cases h; done)
def isSup : Expr → Bool
  | .Call _ [] _ _ => true
  | _ => false
theorem base_no {o : Expr} {a : Str} {env : PySem.Env} {whole : Sem Value} (h : isSup o = false) : attributeBase o a env whole = whole := by
  cases o with
  | Call f es ks p => cases es with
    | nil => cases h
    | cons e es => cases f <;> rfl
  | _ => rfl
def isTest : Expr → Bool
  | .UnaryOp .Not _ _ => true
  | .BoolOp .. => true
  | .IfExp .. => true
  | .Compare .. => true
  | _ => false
theorem true_no {e : Expr} {env : PySem.Env} (h : isTest e = false) (whole : Sem Value) : isTrue e env whole = (do let v ← whole; standAt e.pos; holding [v] (truthy v)) := by
  cases e with
  | UnaryOp o x p => cases o <;> first | rfl | (cases h; done)
  | _ => first | rfl | (cases h; done)
theorem assign_one {e : Expr} {es : List Expr} {env : PySem.Env} (h : isStar e = false) : (assignEach (e :: es) env).map (·.2) = assign e env :: (assignEach es env).map (·.2) := by
  cases e <;> first | rfl | (cases h; done)
def isSeq : Expr → Bool
  | .Tuple .. => true
  | .List .. => true
  | _ => false
theorem stores_no {tg e : Expr} {env : PySem.Env} (h : isSeq tg = false ∨ isSeq e = false) : swappedStores [tg] e env = pure none := by
  rcases h with h | h
  · cases tg <;> first | rfl | (cases h; done)
  · cases tg <;> cases e <;> first | rfl | (cases h; done)
/-- two or three names of one line are stored from the right -/
def locAt1 (sc : Scope) (line : Nat) : Expr → Option Str
  | .Name x pos => if sc.names.lookup x == some .local && pos.line == line then some x else none
  | _ => none
def blkFn (sc : Scope) : Bool := (if sc.kind.isAnnotationScope then ScopeKind.function else sc.kind) == .function
theorem stores_par {sc : Scope} {env : PySem.Env} {x y : Str} {px py pt pt2 : Pos} {kt k2 : Nat} {a b : Expr} (hsc : env.scope = sc) (hb : blkFn sc = true) (ha : isStar a = false) (hb2 : isStar b = false)
    (hx : sc.names.lookup x = some .local) (hy : sc.names.lookup y = some .local) (hl : py.line = px.line) (hne : x ≠ y) (hf : (foldedForSure 8 a && foldedForSure 8 b) = false) (hc : (constantsAlone 8 a && constantsAlone 8 b) = false) :
    swappedStores [.Tuple [.Name x px, .Name y py] kt pt] (.Tuple [a, b] k2 pt2) env = pure (some [x, y]) := by
  subst hsc
  have e1 : env.kindOf x = some .local := hx
  have e2 : env.kindOf y = some .local := hy
  have e3 : env.blockKind = .function := by
    unfold blkFn at hb
    exact eq_of_beq hb
  have e4 : ([x, y] : List Str).eraseDups = [x, y] := by
    have : (y == x) = false := by simp; exact fun z => hne z.symm
    simp [List.eraseDups_cons, this]
  unfold swappedStores
  simp only [List.length_cons, List.length_nil, List.any_cons, List.any_nil, List.all_cons, List.all_nil, List.filterMap_cons, List.filterMap_nil, List.head?_cons, Option.map_some, Option.getD_some, Expr.pos, e1, e2, e3, hl]
  simp [e4, hf, hc]
  intro h
  rcases h with h | h
  · cases a <;> first | (cases h; done) | (cases ha; done)
  · cases b <;> first | (cases h; done) | (cases hb2; done)
theorem stores_par3 {sc : Scope} {env : PySem.Env} {x y z : Str} {px py pz pt pt2 : Pos} {kt k2 : Nat} {a b c : Expr} (hsc : env.scope = sc) (hb : blkFn sc = true) (ha : isStar a = false) (hb2 : isStar b = false) (hc2 : isStar c = false)
    (hx : sc.names.lookup x = some .local) (hy : sc.names.lookup y = some .local) (hz : sc.names.lookup z = some .local) (hl : py.line = px.line) (hl2 : pz.line = px.line) (hne : x ≠ y) (hne2 : x ≠ z) (hne3 : y ≠ z)
    (hf : (foldedForSure 8 a && (foldedForSure 8 b && foldedForSure 8 c)) = false) (hc : (constantsAlone 8 a && (constantsAlone 8 b && constantsAlone 8 c)) = false) :
    swappedStores [.Tuple [.Name x px, .Name y py, .Name z pz] kt pt] (.Tuple [a, b, c] k2 pt2) env = pure (some [x, y, z]) := by
  subst hsc
  have e1 : env.kindOf x = some .local := hx
  have e2 : env.kindOf y = some .local := hy
  have e0 : env.kindOf z = some .local := hz
  have e3 : env.blockKind = .function := by
    unfold blkFn at hb
    exact eq_of_beq hb
  have e4 : ([x, y, z] : List Str).eraseDups = [x, y, z] := by
    have h1 : (y == x) = false := by simp; exact fun z => hne z.symm
    have h2 : (z == x) = false := by simp; exact fun z => hne2 z.symm
    have h3 : (z == y) = false := by simp; exact fun z => hne3 z.symm
    simp [List.eraseDups_cons, h1, h2, h3]
  unfold swappedStores
  simp only [List.length_cons, List.length_nil, List.any_cons, List.any_nil, List.all_cons, List.all_nil, List.filterMap_cons, List.filterMap_nil, List.head?_cons, Option.map_some, Option.getD_some, Expr.pos, e1, e2, e0, e3, hl, hl2]
  simp [e4, hf, hc]
  intro h
  rcases h with h | h | h
  · cases a <;> first | (cases h; done) | (cases ha; done)
  · cases b <;> first | (cases h; done) | (cases hb2; done)
  · cases c <;> first | (cases h; done) | (cases hc2; done)
/-- other tuples are stored one by one -/
theorem stores_len {ts vs : List Expr} {pt pt2 : Pos} {kt k2 : Nat} {env : PySem.Env} (h : !(ts.length == 2 || ts.length == 3) || vs.length != ts.length) : swappedStores [.Tuple ts kt pt] (.Tuple vs k2 pt2) env = pure none := by
  unfold swappedStores
  simp only []
  have : ((!(ts.length == 2 || ts.length == 3) || vs.length != ts.length) || env.blockKind != .function) = true := by rw [h]; rfl
  rw [if_pos this]
theorem stores_folded {t1 t2 a b : Expr} {pt pt2 : Pos} {kt k2 : Nat} {env : PySem.Env} (hf : (foldedForSure 8 a && foldedForSure 8 b) = true) : swappedStores [.Tuple [t1, t2] kt pt] (.Tuple [a, b] k2 pt2) env = pure none := by
  unfold swappedStores
  simp only [List.length_cons, List.length_nil, List.all_cons, List.all_nil, Bool.and_true, hf]
  simp
theorem stores_folded3 {t1 t2 t3 a b c : Expr} {pt pt2 : Pos} {kt k2 : Nat} {env : PySem.Env} (hf : (foldedForSure 8 a && (foldedForSure 8 b && foldedForSure 8 c)) = true) : swappedStores [.Tuple [t1, t2, t3] kt pt] (.Tuple [a, b, c] k2 pt2) env = pure none := by
  unfold swappedStores
  simp only [List.length_cons, List.length_nil, List.all_cons, List.all_nil, Bool.and_true, hf]
  simp
/-- .. where a name is no plain local one -/
def notLoc (sc : Scope) : Expr → Bool
  | .Name x _ => sc.names.lookup x != some .local
  | _ => true
theorem fm_short {α β : Type} {f : α → Option β} : ∀ {l : List α}, (∃ x ∈ l, f x = none) → (l.filterMap f).length < l.length
  | [], ⟨x, hx, _⟩ => by cases hx
  | a :: l, ⟨x, hx, e⟩ => by
    rw [List.filterMap_cons]
    cases ha : f a with
    | none =>
      show (l.filterMap f).length < l.length + 1
      exact Nat.lt_succ_of_le (List.length_filterMap_le _ _)
    | some b =>
      have hl : x ∈ l := by
        rcases List.mem_cons.mp hx with rfl | h
        · rw [ha] at e; cases e
        · exact h
      show (l.filterMap f).length + 1 < l.length + 1
      exact Nat.succ_lt_succ (fm_short ⟨x, hl, e⟩)
theorem stores_short {ts vs : List Expr} {pt pt2 : Pos} {kt k2 : Nat} {env : PySem.Env} (h : ∃ t ∈ ts, notLoc env.scope t = true) : swappedStores [.Tuple ts kt pt] (.Tuple vs k2 pt2) env = pure none := by
  unfold swappedStores
  simp only []
  split
  · rfl
  · split
    · rfl
    · have hl : ∀ (line : Nat), ((ts.filterMap fun
        | .Name id pos => if (env.kindOf id == some .local && pos.line == line) = true then some id else none
        | _ => none).length != ts.length) = true := fun line => by
        have := fm_short (f := fun
          | .Name id pos => if (env.kindOf id == some .local && pos.line == line) = true then some id else none
          | _ => none) (l := ts) (by
            obtain ⟨t, ht, hn⟩ := h
            refine ⟨t, ht, ?_⟩
            cases t with
            | Name x p =>
              have hn : (env.scope.names.lookup x != some .local) = true := hn
              have e : (env.kindOf x == some .local) = false := by
                show (env.scope.names.lookup x == some .local) = false
                simpa using hn
              show (if (env.kindOf x == some .local && p.line == line) = true then some x else none) = none
              rw [e]; rfl
            | _ => rfl)
        exact bne_iff_ne.mpr (Nat.ne_of_lt this)
      rw [if_pos (by rw [Bool.or_eq_true]; exact .inl (hl _))]
theorem stores_cell {t1 t2 a b : Expr} {pt pt2 : Pos} {kt k2 : Nat} {env : PySem.Env} (h : (notLoc env.scope t1 || notLoc env.scope t2) = true) : swappedStores [.Tuple [t1, t2] kt pt] (.Tuple [a, b] k2 pt2) env = pure none := by
  refine stores_short ?_
  rcases Bool.or_eq_true_iff.mp h with h | h
  · exact ⟨t1, by simp, h⟩
  · exact ⟨t2, by simp, h⟩
theorem stores_cell3 {t1 t2 t3 a b c : Expr} {pt pt2 : Pos} {kt k2 : Nat} {env : PySem.Env} (h : (notLoc env.scope t1 || (notLoc env.scope t2 || notLoc env.scope t3)) = true) : swappedStores [.Tuple [t1, t2, t3] kt pt] (.Tuple [a, b, c] k2 pt2) env = pure none := by
  refine stores_short ?_
  rcases Bool.or_eq_true_iff.mp h with h | h
  · exact ⟨t1, by simp, h⟩
  · rcases Bool.or_eq_true_iff.mp h with h | h
    · exact ⟨t2, by simp, h⟩
    · exact ⟨t3, by simp, h⟩
/-- a comprehension at a name of its own line -/
def lcAt (sc : Scope) (scope : Scope) (t : Str) (pos vpos : Pos) : Bool := blkFn sc && sc.names.lookup t == some .local && pos.line == vpos.line && !(scope.names.any fun (n, k) => n == t && (k == .local || k == .cell))
theorem swaps_lc {elt : Expr} {gens : List Comprehension} {scope : Scope} {vpos pos : Pos} {t : Str} {l : Nat} {env : PySem.Env} : swapsWith (.ListComp elt gens scope vpos) (some (.Name t pos)) l env = pure (lcAt env.scope scope t pos vpos) := rfl
theorem swaps_dc {kx vx : Expr} {gens : List Comprehension} {scope : Scope} {vpos pos : Pos} {t : Str} {l : Nat} {env : PySem.Env} : swapsWith (.DictComp kx vx gens scope vpos) (some (.Name t pos)) l env = pure (lcAt env.scope scope t pos vpos) := rfl
end Bc

set_option linter.all false
set_option autoImplicit false
set_option maxRecDepth 100000
set_option maxHeartbeats 1000000
namespace Bc
open PySem PySem.Spec L2

/-- what a module's names mean -/
structure Ms where
  fns : List (Str × Nat)
  bis : List Str
  cons : List (Str × D)
  dcs : List Str
structure Gx where
  m : Ms
  N : List Str
  sc : Scope
  raw : Scope
def beqD : D → D → Bool
  | .int i, .int j => i == j
  | .str i, .str j => i == j
  | .bl i, .bl j => i == j
  | .non, .non => true
  | _, _ => false
theorem beqD_eq {d e : D} (h : beqD d e = true) : d = e := by
  cases d <;> cases e <;> first | (cases h; done) | rfl | (simp [beqD] at h; rw [h])
def Gx.loc (G : Gx) (x : Str) : Bool := match G.sc.names.lookup x with
  | some .local => true
  | some .cell => G.raw.names.lookup x == some .cell
  | _ => false
/-- a block's scope within a scope -/
def relab (scope sc : Scope) : Scope := relabel scope { scope := sc, locals := 0, globals := 0, cells := [] }
theorem relab_eq {scope sc : Scope} {env : PySem.Env} (h : env.scope = sc) : relabel scope env = relab scope sc := by
  subst h; rfl
def Gx.vis (G : Gx) (x : Str) : Bool := match G.sc.names.lookup x with
  | some .local => true
  | some .cell => true
  | some .free => true
  | _ => false
def Gx.glo (G : Gx) (x : Str) : Bool := match G.sc.names.lookup x with
  | some .globalImplicit => true
  | _ => false
def nmOk (x : Str) : Bool := !(x == ("__debug__" : Str)) && !(x == ("__classdict__" : Str))
def Gx.slot (G : Gx) (i : Nat) (x : Str) : Bool := (G.N[i]? == some x) && G.vis x && nmOk x
def Gx.set (G : Gx) (i : Nat) (x : Str) : Bool := (G.N[i]? == some x) && G.loc x
def Gx.bi (G : Gx) (x : Str) : Bool := G.glo x && G.m.bis.contains x
def Gx.fn (G : Gx) (f : Nat) (x : Str) : Bool := G.glo x && (G.m.fns.lookup x == some f) && nmOk x
def Gx.at (G : Gx) (sc : Scope) : Gx := { G with sc := relab sc G.sc, raw := sc }
def Gx.own (G : Gx) (own : List Nat) : List (Str × Nat) := own.map fun i => (G.N.getD i Str.empty, i)
def bfName : Bf → Str
  | .len => "len"
  | .abs => "abs"
  | .min2 => "min"
  | .max2 => "max"
  | .int1 => "int"
  | .bool1 => "bool"
  | .sum => "sum"
  | .any => "any"
  | .all => "all"
  | .tuple => "tuple"
  | .list => "list"
  | .sorted => "sorted"
  | .str1 => "str"
  | .divmod => "divmod"
def tyName : Ty → Str
  | .int => "int"
  | .bool => "bool"
  | .str => "str"
  | .tuple => "tuple"
  | .list => "list"
  | .dict => "dict"
  | .cls _ => "?"
def isCls : Ty → Bool
  | .cls _ => true
  | _ => false
def binOk : Operator → Bool
  | .Add => true
  | .Sub => true
  | .Mult => true
  | .FloorDiv => true
  | .Mod => true
  | .Pow => true
  | .RShift => true
  | .BitAnd => true
  | .BitOr => true
  | .BitXor => true
  | _ => false
def strip : Expr → Expr
  | .BoolOp _ [x] _ => x
  | e => e

mutual
/-- the tree e is what the evaluator's t says; m: 0 a value, 1 a value that is used at once, 2 a test -/
def chk : E → Gx → Nat → Expr → Bool
  | .nev, G, m, e => true
  | .kget t a b, G, m, e => (match strip e with
    | .Call (.Attribute (.Name x _) nm apos) [u, v] [] pos => (nm == ("get" : Str)) && (x == t) && G.glo x && nmOk x && G.m.dcs.contains x && !isStar u && !isStar v && (apos.endLine == pos.line) && chk a G 1 u && chk b G 0 v
    | _ => false)
  | .dcT _ _ _ _ _ _ _, G, m, e => false
  | .var i, G, m, e => (match strip e with
    | .Name x _ => G.slot i x
    | _ => false)
  | .own i, G, m, e => (match strip e with
    | .Name x _ => m != 0 && G.slot i x
    | _ => false)
  | .int i, G, m, e => (match strip e with
    | .Constant (.int j) _ _ => i == j
    | _ => false)
  | .bl i, G, m, e => (match strip e with
    | .Constant (.bool j) _ _ => i == j
    | _ => false)
  | .non, G, m, e => (match strip e with
    | .Constant .none _ _ => true
    | _ => false)
  | .str i, G, m, e => (match strip e with
    | .Constant (.str j) _ _ => i == j
    | _ => false)
  | .glob d, G, m, e => (match strip e with
    | .Name x _ => G.glo x && nmOk x && (match G.m.cons.lookup x with
      | some d' => beqD d' d
      | none => false)
    | _ => false)
  | .bin o a b, G, m, e => (match strip e with
    | .BinOp x o' y _ => binOk o && (o' == o) && chk a G 1 x && chk b G 1 y
    | _ => false)
  | .neg a, G, m, e => (match strip e with
    | .UnaryOp .USub x _ => chk a G 1 x
    | _ => false)
  | .inv a, G, m, e => (match strip e with
    | .UnaryOp .Invert x _ => chk a G 1 x
    | _ => false)
  | .not a, G, m, e => (match strip e with
    | .UnaryOp .Not x _ => if m == 2 then chk a G 2 x else chk a G 1 x
    | _ => false)
  | .cmp o a b, G, m, e => (match strip e with
    | .Compare x [o'] [y] _ => (o' == o) && !isSet y && chk a G 1 x && chk b G 1 y
    | _ => false)
  | .cmp2 o1 o2 a b c, G, m, e => (match strip e with
    | .Compare x [o1', o2'] [y, z] _ => (o1' == o1) && (o2' == o2) && !isSet z && chk a G 1 x && chk b G 1 y && chk c G 1 z
    | _ => false)
  | .and a b, G, m, e => (match strip e with
    | .BoolOp .And (x :: y :: r) p => if m == 2 then chk a G 2 x && chk b G 2 (.BoolOp .And (y :: r) p) else chk a G 0 x && chk b G 0 (.BoolOp .And (y :: r) p)
    | _ => false)
  | .or a b, G, m, e => (match strip e with
    | .BoolOp .Or (x :: y :: r) p => if m == 2 then chk a G 2 x && chk b G 2 (.BoolOp .Or (y :: r) p) else chk a G 0 x && chk b G 0 (.BoolOp .Or (y :: r) p)
    | _ => false)
  | .ite t a b, G, m, e => (match strip e with
    | .IfExp x y z _ => m != 2 && chk t G 2 x && chk a G m y && chk b G m z
    | _ => false)
  | .tup es, G, m, e => (match strip e with
    | .Tuple xs _ _ => chks es G 0 xs
    | _ => false)
  | .lst es, G, m, e => (match strip e with
    | .List xs _ => chks es G 0 xs
    | _ => false)
  | .sub a i, G, m, e => (match strip e with
    | .Subscript x y _ => !isSlice y && chk a G 1 x && chk i G 1 y
    | _ => false)
  | .slice a lo hi, G, m, e => (match strip e with
    | .Subscript x (.Slice l h none _) _ => chk a G 1 x && chkO lo G l && chkO hi G h
    | _ => false)
  | .call f es, G, m, e => (match strip e with
    | .Call (.Name x _) (y :: ys) [] _ => G.fn f x && !isStar y && !ys.any isStar && chks es G 0 (y :: ys)
    | _ => false)
  | .callB f es, G, m, e => (match strip e with
    | .Call (.Name x _) (y :: ys) [] _ => G.fn f x && !isStar y && !ys.any isStar && chks es G 1 (y :: ys)
    | _ => false)
  | .isi a ts, G, m, e => (match strip e, ts with
    | .Call (.Name x _) [y, .Name z _] [] _, [T] => (x == ("isinstance" : Str)) && G.bi x && G.bi z && (z == tyName T) && !isCls T && !isStar y && chk a G 1 y
    | _, _ => false)
  | .bi b es, G, m, e => (match strip e with
    | .Call (.Name x _) (y :: ys) [] _ => (x == bfName b) && G.bi x && !isStar y && !ys.any isStar && chks es G 1 (y :: ys)
    | _ => false)
  | .bm b a es, G, m, e => (match strip e, b, es with
    | .Call (.Attribute y nm apos) [] [] pos, .bitLength, .nil => (nm == ("bit_length" : Str)) && !isSup y && (apos.endLine == pos.line) && chk a G 1 y
    | .Call (.Attribute y nm apos) [z] [] pos, .index, .cons f .nil => (nm == ("index" : Str)) && !isSup y && !isStar z && (apos.endLine == pos.line) && chk a G 1 y && chk f G 1 z
    | _, _, _ => false)
  | .lc t k it cs b own, G, m, e => (match strip e with
    | .ListComp elt [⟨tg, iter, ifs, 0⟩] scope _ => blkC G.N G.sc scope (G.own own) && !isSet iter && (tvs t).all (own.contains ·) && chkI it k G true tg iter && chkT t (G.at scope) tg && chkCs cs (G.at scope) ifs && chk b (G.at scope) 0 elt
    | _ => false)
  | .lc2 t k it cs t1 k1 it1 cs1 b own own1, G, m, e => (match strip e with
    | .ListComp elt [⟨tg, iter, ifs, 0⟩, ⟨tg1, iter1, ifs1, 0⟩] scope _ => blkC G.N G.sc scope (G.own own) && !isSet iter && !isSet iter1 && (tvs t).all (own.contains ·) && own1.all (own.contains ·) && (tvs t1).all (own1.contains ·) && chkI it k G true tg iter && chkT t (G.at scope) tg && chkCs cs (G.at scope) ifs &&
        chkI it1 k1 (G.at scope) false tg1 iter1 && chkT t1 (G.at scope) tg1 && chkCs cs1 (G.at scope) ifs1 && chk b (G.at scope) 0 elt
    | _ => false)
  | .fld _ _, _, _, _ => false
  | .make _ _, _, _, _ => false
def chks : Es → Gx → Nat → List Expr → Bool
  | .nil, G, m, es => es.isEmpty
  | .cons t r, G, m, es => (match es with
    | e :: rest => !isStar e && chk t G m e && chks r G m rest
    | [] => false)
  | .star t r, G, m, es => (match es with
    | .Starred x _ :: rest => chk t G 1 x && chks r G m rest
    | _ => false)
def chkO : Op → Gx → Option Expr → Bool
  | .no, G, e => e.isNone
  | .ex t, G, e => (match e with
    | some x => chk t G 1 x
    | none => false)
/-- a comprehension's tests: one at most -/
def chkCs : Es → Gx → List Expr → Bool
  | .nil, G, es => es.isEmpty
  | .cons t r, G, es => (match es, r with
    | [e], .nil => chk t G 2 e
    | _, _ => false)
  | .star _ _, _, _ => false
/-- a walk; tr: what it walks may be used at once -/
def chkI : Es → Itb → Gx → Bool → Expr → Expr → Bool
  | .nil, _, _, _, _, _ => false
  | .star _ _, _, _, _, _, _ => false
  | .cons t r, k, G, tr, tg, e => (match k, r with
    | .seq, .nil => chk t G (if tr then 1 else 0) e
    | .rev, .nil => (match e with
      | .Call (.Name x _) [a] [] _ => (x == ("reversed" : Str)) && G.bi x && !isStar a && chk t G (if tr then 1 else 0) a
      | _ => false)
    | .range1, .nil => (match e with
      | .Call (.Name x _) [a] [] _ => (x == ("range" : Str)) && G.bi x && !isStar a && chk t G (if tr then 1 else 0) a
      | _ => false)
    | .range2, .cons u .nil => (match e with
      | .Call (.Name x _) [a, b] [] _ => (x == ("range" : Str)) && G.bi x && !isStar a && !isStar b && chk t G (if tr then 1 else 0) a && chk u G (if tr then 1 else 0) b
      | _ => false)
    | .range3, .cons u (.cons v .nil) => (match e with
      | .Call (.Name x _) [a, b, c] [] _ => (x == ("range" : Str)) && G.bi x && !isStar a && !isStar b && !isStar c && chk t G (if tr then 1 else 0) a && chk u G (if tr then 1 else 0) b && chk v G (if tr then 1 else 0) c
      | _ => false)
    | .enum, .nil => (match tg, e with
      | .Tuple _ _ _, .Call (.Name x _) [a] [] _ => (x == ("enumerate" : Str)) && G.bi x && !isStar a && chk t G (if tr then 1 else 0) a
      | _, _ => false)
    | .zip, .cons u .nil => (match tg, e with
      | .Tuple _ _ _, .Call (.Name x _) [a, b] [] _ => (x == ("zip" : Str)) && G.bi x && !isStar a && !isStar b && chk t G (if tr then 1 else 0) a && chk u G (if tr then 1 else 0) b
      | _, _ => false)
    | _, _ => false)
def chkT : T → Gx → Expr → Bool
  | .nm i, G, e => (match e with
    | .Name x _ => G.set i x
    | _ => false)
  | .tp ts, G, e => (match e with
    | .Tuple es _ _ => chkTs ts G es
    | _ => false)
  | .sub a k, G, e => (match e with
    | .Subscript x y _ => !isSlice y && chk a G 1 x && chk k G 1 y
    | _ => false)
def chkTs : Ts → Gx → List Expr → Bool
  | .nil, G, es => es.isEmpty
  | .cons t r, G, es => (match es with
    | e :: rest => !isStar e && chkT t G e && chkTs r G rest
    | [] => false)
end

/-- what holds of a body's context -/
structure Cok (X : Sx) (cl : Cl) (G : Gx) (W : WD) (C : Cx) : Prop where
  hK : X.K = C.K
  hN : C.N = G.N
  nd : C.N.Nodup
  sc : C.env.scope = G.sc
  calm : C.calm = true
  fn : ∀ x, G.raw.names.lookup x = some .cell → C.fn x = true
  un : C.A.units + 65 < cLine
  wx : ∃ Wx, Takes C Wx ∧ ∀ c fs s σ H R, W c fs s σ H R → wX X Wx c fs s σ H R
  fns : ∀ x f, G.m.fns.lookup x = some f → ∃ (addr : Addr) (fd : FuncData) (ps : List Str) (k : Nat), C.mg x = some (.ref addr) ∧ PySem.W.keepIn C.K (.ref addr) = true ∧ Binds C.K fd ps [] ∧ Room k C.A ∧ FnOk C.prog C.w C.K C.mg C.base (L2.CX C.prog C.w) k addr fd ps (spF X (cl.call f))
  bis : ∀ x, x ∈ G.m.bis → C.mg x = none
  cons : ∀ x d, G.m.cons.lookup x = some d → ∃ (v : V) (u : Value), C.mg x = some u ∧ RelV v u ∧ ∀ R, Rep X R v d
  dcs : ∀ x, x ∈ G.m.dcs → ∃ p, C.mg x = some (.ref p) ∧ KTab X C.K C.w p (cl.tab x)
end Bc

set_option linter.all false
set_option autoImplicit false
set_option maxRecDepth 100000
set_option maxHeartbeats 1000000
namespace Bc
open PySem PySem.Spec L2

section
variable {X : Sx} {W : WD} {C : Cx} {cl : Cl} {G : Gx} {pos : Pos}
/-! ### tables -/
theorem bin_tab (hK : X.K = C.K) {o : Operator} (h : binOk o = true) : ∃ r, OpR C (binaryOp o) r ∧ Op2 X r (binD o) := by
  cases o with
  | Add => exact ⟨_, op_add4, hK ▸ g_add⟩
  | Sub => exact ⟨_, op_sub, g_sub⟩
  | Mult => exact ⟨_, op_mul2, hK ▸ g_mul⟩
  | FloorDiv => exact ⟨_, op_fdivQ, g_fdiv⟩
  | Mod => exact ⟨_, op_mod, g_mod⟩
  | Pow => exact ⟨_, op_pow, g_pow⟩
  | RShift => exact ⟨_, op_shr, g_shr⟩
  | BitAnd => exact ⟨_, op_and, g_band⟩
  | BitOr => exact ⟨_, op_or, g_bor⟩
  | BitXor => exact ⟨_, op_xor, g_bxor⟩
  | Div => cases h
  | MatMult => cases h
  | LShift => cases h
theorem cmp_tab (hK : X.K = C.K) (hu : C.A.units + 65 < cLine) (o : CmpOp) : ∃ r, OpR C (compareOp o) r ∧ Op2 X r (cmpD o) := by
  cases o with
  | Eq => exact ⟨_, op_eqD (by omega), hK ▸ g_eq⟩
  | NotEq => exact ⟨_, op_neD (by omega), hK ▸ g_ne⟩
  | Lt => exact ⟨_, op_lt3 (by omega), hK ▸ g_lt⟩
  | LtE => exact ⟨_, op_le, g_le⟩
  | Gt => exact ⟨_, op_gt, g_gt⟩
  | GtE => exact ⟨_, op_ge, g_ge⟩
  | In => exact ⟨_, op_in3 hu, hK ▸ g_in⟩
  | NotIn => exact ⟨_, op_notIn3 hu, hK ▸ g_notIn⟩
  | Is => exact ⟨_, op_is2, g_is⟩
  | IsNot => exact ⟨_, op_not2, g_isNot⟩
theorem bf_tab (hK : X.K = C.K) (hc : C.calm = true) (b : Bf) : (∃ (id : String) (r : List V → Hp → VK → Prop), CallR C (.builtin id) r ∧ FnR X r (bfD b) ∧ bootBuiltins (bfName b) = some (.builtin id)) ∨ ∃ (T : String) (r : List V → Hp → VK → Prop), CallR C (.type T) r ∧ FnR X r (bfD b) ∧ bootBuiltins (bfName b) = some (.type T) := by
  cases b with
  | len => exact .inl ⟨_, _, call_len, hK ▸ b_len, PySem.boot_len⟩
  | abs => exact .inl ⟨_, _, call_abs, b_abs, PyProof.Rows.boot_abs⟩
  | min2 => exact .inl ⟨_, _, call_min2 hc, b_min, PyProof.Rows.boot_min⟩
  | max2 => exact .inl ⟨_, _, call_max2 hc, b_max, PyProof.Rows.boot_max⟩
  | int1 => exact .inr ⟨_, _, call_int1, b_int, PyProof.Rows.boot_int⟩
  | bool1 => exact .inr ⟨_, _, call_bool1, b_bool, PyProof.Rows.boot_bool⟩
  | sum => exact .inl ⟨_, _, cr_sum hc, hK ▸ b_sum, PyProof.Rows.boot_sum⟩
  | any => exact .inl ⟨_, _, cr_any hc, hK ▸ b_any, PyProof.Rows.boot_any⟩
  | all => exact .inl ⟨_, _, cr_all hc, hK ▸ b_all, PyProof.Rows.boot_all⟩
  | tuple => exact .inr ⟨_, _, call_tuple_of, hK ▸ b_tuple, PyProof.Rows.boot_tuple⟩
  | list => exact .inr ⟨_, _, call_list_of, hK ▸ b_list, PyProof.Rows.boot_list⟩
  | sorted => exact .inl ⟨_, _, cr_sort2, hK ▸ b_sorted, PyProof.Rows.boot_sorted⟩
  | str1 => exact .inr ⟨_, _, call_str_int.or SkE.call_str_str, b_str, PyProof.Rows.boot_str⟩
  | divmod => exact .inl ⟨_, _, call_divmodW, b_divmod, PyProof.Rows.boot_divmod⟩
theorem bf_name (b : Bf) : bfName b ≠ "__name__" ∧ (bfName b == ("__debug__" : Str)) = false := by cases b <;> decide +kernel
theorem ty_boot {t : Ty} (h : isCls t = false) : bootBuiltins (tyName t) = some (.type t.name) ∧ tyName t ≠ "__name__" ∧ (tyName t == ("__debug__" : Str)) = false := by
  cases t with
  | int => exact ⟨PyProof.Rows.boot_int, by decide +kernel, by decide +kernel⟩
  | bool => exact ⟨PyProof.Rows.boot_bool, by decide +kernel, by decide +kernel⟩
  | str => exact ⟨PyProof.Rows.boot_str, by decide +kernel, by decide +kernel⟩
  | tuple => exact ⟨PyProof.Rows.boot_tuple, by decide +kernel, by decide +kernel⟩
  | list => exact ⟨PyProof.Rows.boot_list, by decide +kernel, by decide +kernel⟩
  | dict => exact ⟨PyProof.Rows.boot_dict, by decide +kernel, by decide +kernel⟩
  | cls c => cases h
/-! ### list.index -/
theorem dx_index {a z : Expr} {ea ef : E} {apos : Pos} (hK : X.K = C.K) (hu : C.A.units + 65 < cLine) (ha : PE C a (tT X W (evE cl ea))) (hz : PA C [z] (tTs X W (evEs cl (.cons ef .nil)))) (hsz : isStar z = false) (hsa : isSup a = false) (hline : (apos.endLine == pos.line) = true) :
    PE C (.Call (.Attribute a "index" apos) [z] [] pos) (tD X W (evE cl (.bm .index ea (.cons ef .nil)))) := by
  refine (pe_bm PySem.F.plainAttrs_list PySem.F.slot_list_index PySem.F.type_list_index (mt_indexD hu) ha hz (base_no hsa) (by rw [starEach_one hsz]; rfl) hline (starEach_one hsz) rfl).weak fun σ H Q ⟨R, env, sto, S, E, o⟩ => ?_
  unfold evE at o
  refine useT S E o fun v H1 R1 d s1 g1 S1 E1 r1 o1 => ?_
  have ⟨ds, s2, e2, o2⟩ : ∃ ds s2, evEs cl (.cons ef .nil) env s1 = .ok (ds, s2) ∧ Out (wE X W R H σ) (mIndex d ds s2) (fun d s' => ∀ (v : V) (H' : Hp) (R' : Rl), Grow R H R' H' → StOk X R' H' s' → Rep X R' v d → Q v H') := by
    have o2 := Out.noX (W' := noW) (Out.bind o1)
    cases e : evEs cl (.cons ef .nil) env s1 with
    | ok p => rw [e] at o2; exact ⟨p.1, p.2, rfl, o2⟩
    | exc _ _ _ => rw [e] at o2; exact o2.elim
    | stuck => rw [e] at o2; exact o2.elim
  unfold mIndex at o2
  split at o2 <;> first | exact (Out.stuck' o2).elim | skip
  rename_i b xs y
  obtain ⟨dy, ey, o2⟩ := o2.ofOptB
  obtain ⟨es, ees, o2⟩ := o2.ofOptB
  obtain ⟨hs, o2⟩ := o2.needB
  obtain ⟨j, ej, o2⟩ := o2.ofOptB
  obtain ⟨hs1, hs2⟩ := Bool.and_eq_true_iff.mp hs
  obtain ⟨p, vs, rfl, h, rs⟩ := r1.lst S1
  refine ⟨.inl ⟨rfl, vs, .of h⟩, R1, env, s1, S1, E1, out_ok e2 fun ws H2 R2 g2 S2 r2 => ?_⟩
  obtain ⟨w, rfl, r3⟩ := r2.one
  have hd : Dp X.K H2 (.ref p) (.list es) := (r1.grow g2).dp S2 (by unfold toPy; rw [ees]; rfl)
  have hy : Dp X.K H2 w dy := r3.dp S2 ey
  obtain ⟨hj, hp, hno⟩ := List.findIdx?_eq_some_iff_getElem.mp ej
  refine ⟨p, w, dy, es, j, es[j], rfl, rfl, hK ▸ hd, hK ▸ hy, hs2, hs1, by simp [hj], hp, fun m z' hm hz => ?_, Out.pure o2 _ H2 R2 (g1.trans g2) S2 (.int _)⟩
  have hm2 : m < es.length := by omega
  rw [List.getElem?_eq_getElem hm2] at hz
  cases hz
  have := hno m hm
  simpa using this

/-! ### soundness of the check -/
theorem _root_.L2.PE.cD {e : Expr} {f g : Env → M D} (h : PE C e (tD X W f)) (eq : ∀ env, g env = f env) : PE C e (tD X W g) := by
  have : g = f := funext eq
  rw [this]; exact h
theorem _root_.L2.PE.cT {e : Expr} {f g : Env → M D} (h : PE C e (tT X W f)) (eq : ∀ env, g env = f env) : PE C e (tT X W g) := by
  have : g = f := funext eq
  rw [this]; exact h
theorem _root_.L2.PT.cB {e : Expr} {f g : Env → M Bool} (h : PT C e (tB X W f)) (eq : ∀ env, g env = f env) : PT C e (tB X W g) := by
  have : g = f := funext eq
  rw [this]; exact h
theorem _root_.L2.PW.cB {e : Expr} {f g : Env → M Bool} (h : PW C e (tB X W f)) (eq : ∀ env, g env = f env) : PW C e (tB X W g) := by
  have : g = f := funext eq
  rw [this]; exact h
theorem _root_.L2.PA.cD {e : List Expr} {f g : Env → M (List D)} (h : PA C e (tDs X W f)) (eq : ∀ env, g env = f env) : PA C e (tDs X W g) := by
  have : g = f := funext eq
  rw [this]; exact h
theorem _root_.L2.PA.cT {e : List Expr} {f g : Env → M (List D)} (h : PA C e (tTs X W f)) (eq : ∀ env, g env = f env) : PA C e (tTs X W g) := by
  have : g = f := funext eq
  rw [this]; exact h
theorem PI.cI {tg e : Expr} {tr : Bool} {f g : Env → M (List D)} (h : PI C tg e (tI X W tr f)) (eq : ∀ env, g env = f env) : PI C tg e (tI X W tr g) := by
  have : g = f := funext eq
  rw [this]; exact h
def Sat (X : Sx) (W : WD) (C : Cx) (cl : Cl) (m : Nat) (e : Expr) (t : E) : Prop :=
  (m = 0 → PE C e (tD X W (evE cl t))) ∧ (m = 1 → PE C e (tT X W (evE cl t))) ∧ (m = 2 → PT C e (tB X W fun env => (evE cl t env).bind truM) ∧ ∀ op xs p, e = .BoolOp op xs p → PW C e (tB X W fun env => (evE cl t env).bind truM))
theorem strip_cases (e : Expr) : (∃ op x p, e = .BoolOp op [x] p ∧ strip e = x) ∨ strip e = e := by
  cases e with
  | BoolOp op xs p =>
    cases xs with
    | nil => exact .inr rfl
    | cons x r => cases r with
      | nil => exact .inl ⟨op, x, p, rfl, rfl⟩
      | cons y r => exact .inr rfl
  | _ => exact .inr rfl
theorem sat_mk {m : Nat} {e : Expr} {t : E} (h0 : m = 0 → PE C (strip e) (tD X W (evE cl t))) (h1 : m = 1 → PE C (strip e) (tT X W (evE cl t)))
    (h2 : m = 2 → PT C (strip e) (tB X W fun env => (evE cl t env).bind truM) ∧ ∀ op xs p, strip e = .BoolOp op xs p → PW C (strip e) (tB X W fun env => (evE cl t env).bind truM)) : Sat X W C cl m e t := by
  rcases strip_cases e with ⟨op, x, p, rfl, hs⟩ | hs
  · rw [hs] at h0 h1 h2
    refine ⟨fun z => pe_one (h0 z), fun z => pe_one (h1 z), fun z => ?_⟩
    have w : PW C (.BoolOp op [x] p) (tB X W fun env => (evE cl t env).bind truM) := dw_one (h2 z).1
    exact ⟨w.pt, fun _ _ _ _ => w⟩
  · rw [hs] at h0 h1 h2
    exact ⟨h0, h1, h2⟩
theorem sat_val {m : Nat} {e e' : Expr} {t : E} (hK : X.K = C.K) (he : strip e = e') (h : PE C e' (tD X W (evE cl t))) (ht : isTest e' = false) : Sat X W C cl m e t := by
  subst he
  refine sat_mk (fun _ => h) (fun _ => h.anyT) fun _ => ⟨dt_plain hK h.anyT (true_no ht), fun op xs p z => ?_⟩
  rw [z] at ht; cases ht
theorem sat_tr {m : Nat} {e e' : Expr} {t : E} (hK : X.K = C.K) (he : strip e = e') (h : PE C e' (tT X W (evE cl t))) (ht : isTest e' = false) (hm : m ≠ 0) : Sat X W C cl m e t := by
  subst he
  refine sat_mk (fun z => absurd z hm) (fun _ => h) fun _ => ⟨dt_plain hK h (true_no ht), fun op xs p z => ?_⟩
  rw [z] at ht; cases ht
theorem sat_cmp {m : Nat} {e e' : Expr} {t : E} (he : strip e = e') (h : PE C e' (tD X W (evE cl t))) (h2 : PT C e' (tB X W fun env => (evE cl t env).bind truM)) (hb : ∀ op xs p, e' ≠ .BoolOp op xs p) : Sat X W C cl m e t := by
  subst he
  exact sat_mk (fun _ => h) (fun _ => h.anyT) fun _ => ⟨h2, fun op xs p z => absurd z (hb op xs p)⟩
theorem Gx.slot_ok (k : Cok X cl G W C) {i : Nat} {x : Str} (h : G.slot i x = true) : C.N[i]? = some x ∧ Vis C.env.scope x ∧ (x == ("__debug__" : Str)) = false ∧ (x == ("__classdict__" : Str)) = false := by
  unfold Gx.slot nmOk at h
  simp only [Bool.and_eq_true, beq_iff_eq, Bool.not_eq_true'] at h
  obtain ⟨⟨h1, h2⟩, h3, h4⟩ := h
  refine ⟨by rw [k.hN]; exact h1, ?_, h3, h4⟩
  unfold Gx.vis at h2
  unfold Vis
  rw [k.sc]
  split at h2
  · rename_i e; exact .inl e
  · rename_i e; exact .inr (.inl e)
  · rename_i e; exact .inr (.inr e)
  · cases h2
theorem Gx.set_ok (k : Cok X cl G W C) {i : Nat} {x : Str} (h : G.set i x = true) : C.N[i]? = some x ∧ L2.Loc C.env.scope x ∧ (C.fn x = true ∨ C.env.scope.names.lookup x = some .local) := by
  unfold Gx.set at h
  simp only [Bool.and_eq_true, beq_iff_eq] at h
  obtain ⟨h1, h2⟩ := h
  unfold Gx.loc at h2
  unfold L2.Loc
  refine ⟨by rw [k.hN]; exact h1, ?_⟩
  have kf := k.fn x
  rw [k.sc]
  split at h2
  · rename_i e; exact ⟨.inl e, .inr e⟩
  · rename_i e; exact ⟨.inr e, .inl (kf (eq_of_beq h2))⟩
  · cases h2
theorem Gx.glo_ok (k : Cok X cl G W C) {x : Str} (h : G.glo x = true) : Gl C x := by
  unfold Gx.glo at h
  show C.env.scope.names.lookup x = _
  rw [k.sc]
  split at h
  · assumption
  · cases h
theorem Gx.bi_ok (k : Cok X cl G W C) {x : Str} (h : G.bi x = true) : Gl C x ∧ C.mg x = none := by
  unfold Gx.bi at h
  obtain ⟨h1, h2⟩ := Bool.and_eq_true_iff.mp h
  exact ⟨Gx.glo_ok k h1, k.bis x (by simpa using h2)⟩
theorem notStar {b : Bool} (h : (!b) = true) : b = false := by simpa using h
end
end Bc

set_option linter.all false
set_option autoImplicit false
set_option maxRecDepth 100000
set_option maxHeartbeats 2000000
namespace Bc
open PySem PySem.Spec L2

section
variable {X : Sx} {W : WD} {C : Cx} {cl : Cl} {G : Gx} {pos : Pos}
theorem and3 {a b : Bool} (h : (a && b) = true) : a = true ∧ b = true := Bool.and_eq_true_iff.mp h
/-- a block's context -/
theorem Cok.blk (k : Cok X cl G W C) (s : Shared) (H : Hp) (scope : Scope) (A : Addr) (c : List (Str × Addr)) (fp : List Addr) : Cok X cl (G.at scope) W0 (Cb C s H scope A c fp) where
  hK := k.hK
  hN := k.hN
  nd := k.nd
  sc := relab_eq k.sc
  calm := k.calm
  fn := fun x h => by
    show (scope.names.lookup x == some .cell) = true
    have h : scope.names.lookup x = some .cell := h
    rw [h]; rfl
  un := k.un
  wx := ⟨fun _ _ _ _ => False, takes0, fun _ _ _ _ _ _ z => z.elim⟩
  fns := k.fns
  bis := k.bis
  cons := k.cons
  dcs := k.dcs
def SatA (X : Sx) (W : WD) (C : Cx) (cl : Cl) (m : Nat) (es : List Expr) (t : Es) : Prop := (m = 0 → PA C es (tDs X W (evEs cl t))) ∧ (m = 1 → PA C es (tTs X W (evEs cl t)))
theorem SatA.x {m : Nat} {es : List Expr} {t : Es} {tr : Bool} (h : SatA X W C cl m es t) (hm : m = if tr then 1 else 0) : PA C es (tXs X W tr (evEs cl t)) := by
  cases tr with
  | true => exact h.2 hm
  | false => exact h.1 hm
theorem Sat.x {m : Nat} {e : Expr} {t : E} {tr : Bool} (h : Sat X W C cl m e t) (hm : m = if tr then 1 else 0) : PE C e (tX X W tr (evE cl t)) := by
  cases tr with
  | true => exact h.2.1 hm
  | false => exact h.1 hm
theorem own_map (G : Gx) (own : List Nat) : (G.own own).map (·.2) = own := by
  unfold Gx.own
  rw [List.map_map]
  show own.map (fun i => i) = own
  exact List.map_id' own
theorem all_mem {xs ys : List Nat} (h : xs.all (ys.contains ·) = true) : ∀ n ∈ xs, n ∈ ys := fun n hn => by
  have := List.all_eq_true.mp h n hn
  simpa using this
theorem assigns_len {es : List Expr} {env : PySem.Env} : (assignEach es env).length = es.length := by
  induction es with
  | nil => rfl
  | cons e es ih => cases e <;> simp [assignEach, ih]
theorem Gx.fn_ok (k : Cok X cl G W C) {f : Nat} {x : Str} (h : G.fn f x = true) : Gl C x ∧ G.m.fns.lookup x = some f ∧ (x == ("__debug__" : Str)) = false := by
  unfold Gx.fn nmOk at h
  obtain ⟨h, h3⟩ := and3 h
  obtain ⟨h1, h2⟩ := and3 h
  exact ⟨Gx.glo_ok k h1, eq_of_beq h2, notStar (and3 h3).1⟩
theorem dcs_nil : PTs C [] (tB X W fun _ => M.pure true) := ⟨fun pins s σ H Q I ⟨R, env, sto, S, E, o⟩ => pts_nil.run pins s σ H Q I (Out.pure o H R (Grow.refl _ _) S)⟩
theorem assign_sub {x y : Expr} {p : Pos} {env : PySem.Env} (h : isSlice y = false) (v : Value) : assign (.Subscript x y p) env v = (do
      let ov ← holding [v] (eval x env)
      let iv ← holding [v, ov] (eval y env)
      standAt p
      holding [v, ov, iv] (setItem ov iv v)
      release [v, ov, iv] []) := by
  cases y <;> first | rfl | (cases h; done)
theorem assign_all {e : Expr} {es : List Expr} {env : PySem.Env} (h : isStar e = false) : assignEach (e :: es) env = (false, assign e env) :: assignEach es env := by
  cases e <;> first | rfl | (cases h; done)
mutual
theorem chk_ok : ∀ (t : E) {G : Gx} {C : Cx} {W : WD} {m : Nat} {e : Expr}, Cok X cl G W C → chk t G m e = true → Sat X W C cl m e t
  | .var i, G, C, W, m, e, k, h => by
    unfold chk at h
    split at h <;> first | (cases h; done) | skip
    rename_i x p he
    obtain ⟨h1, h2, h3, h4⟩ := Gx.slot_ok k h
    exact sat_val k.hK he (dx_var cl h1 h2 h3 h4) rfl
  | .own i, G, C, W, m, e, k, h => by
    unfold chk at h
    split at h <;> first | (cases h; done) | skip
    rename_i x p he
    obtain ⟨hm, h⟩ := and3 h
    obtain ⟨h1, h2, h3, h4⟩ := Gx.slot_ok k h
    exact sat_tr k.hK he (dx_own cl h1 h2 h3 h4) rfl (by simpa using hm)
  | .int i, G, C, W, m, e, k, h => by
    unfold chk at h
    split at h <;> first | (cases h; done) | skip
    rename_i j _ _ he
    have h := eq_of_beq h
    subst h
    exact sat_val k.hK he (PE.cD (dx_int) fun env => by rw [evE] <;> rfl) rfl
  | .bl i, G, C, W, m, e, k, h => by
    unfold chk at h
    split at h <;> first | (cases h; done) | skip
    rename_i j _ _ he
    have h := eq_of_beq h
    subst h
    exact sat_val k.hK he (PE.cD (dx_bl) fun env => by rw [evE] <;> rfl) rfl
  | .non, G, C, W, m, e, k, h => by
    unfold chk at h
    split at h <;> first | (cases h; done) | skip
    rename_i he
    exact sat_val k.hK he (PE.cD (dx_non) fun env => by rw [evE] <;> rfl) rfl
  | .str i, G, C, W, m, e, k, h => by
    unfold chk at h
    split at h <;> first | (cases h; done) | skip
    rename_i j _ _ he
    have h := eq_of_beq h
    subst h
    exact sat_val k.hK he (PE.cD (dx_str) fun env => by rw [evE] <;> rfl) rfl
  | .glob d, G, C, W, m, e, k, h => by
    unfold chk at h
    split at h <;> first | (cases h; done) | skip
    rename_i x p he
    obtain ⟨h0, h2⟩ := and3 h
    obtain ⟨h0, h1⟩ := and3 h0
    split at h2 <;> first | (cases h2; done) | skip
    rename_i d' hd
    have e := beqD_eq h2
    subst e
    obtain ⟨v, u, hm, r, rep⟩ := k.cons x _ hd
    have hdb : (x == ("__debug__" : Str)) = false := by
      unfold nmOk at h1
      have := (and3 h1).1
      simpa using this
    refine sat_val k.hK he ((pe_glob (Gx.glo_ok k h0) hm r hdb).weak fun σ H Q ⟨R, env, sto, S, E, o⟩ => ?_) rfl
    unfold evE at o
    exact o.pure v H R (Grow.refl _ _) S (rep R)
  | .bin o a b, G, C, W, m, e, k, h => by
    unfold chk at h
    split at h <;> first | (cases h; done) | skip
    rename_i x o' y _ he
    obtain ⟨h, h4⟩ := and3 h
    obtain ⟨h, h3⟩ := and3 h
    obtain ⟨h1, h2⟩ := and3 h
    obtain ⟨r, hr, hg⟩ := bin_tab (X := X) k.hK h1
    have e2 : o' = o := eq_of_beq h2
    subst e2
    exact sat_val k.hK he (PE.cD (dx_bin hr hg ((chk_ok a k h3).2.1 rfl) ((chk_ok b k h4).2.1 rfl)) fun env => by rw [evE] <;> rfl) rfl
  | .neg a, G, C, W, m, e, k, h => by
    unfold chk at h
    split at h <;> first | (cases h; done) | skip
    rename_i x _ he
    exact sat_val k.hK he (PE.cD (dx_neg ((chk_ok a k h).2.1 rfl)) fun env => by rw [evE] <;> rfl) rfl
  | .inv a, G, C, W, m, e, k, h => by
    unfold chk at h
    split at h <;> first | (cases h; done) | skip
    rename_i x _ he
    exact sat_val k.hK he (PE.cD (dx_inv ((chk_ok a k h).2.1 rfl)) fun env => by rw [evE] <;> rfl) rfl
  | .not a, G, C, W, m, e, k, h => by
    unfold chk at h
    split at h <;> first | (cases h; done) | skip
    rename_i x p he
    by_cases hm : m = 2
    · subst hm
      have h : chk a G 2 x = true := h
      refine sat_mk (fun z => by cases z) (fun z => by cases z) fun _ => ?_
      rw [he]
      exact ⟨PT.cB (dt_not ((chk_ok a k h).2.2 rfl).1) fun env => by rw [evE] <;> rfl, fun _ _ _ z => by cases z⟩
    · have h : chk a G 1 x = true := by rw [if_neg (by simpa using hm)] at h; exact h
      have := dx_not (pos := p) (W := W) k.hK ((chk_ok a k h).2.1 rfl)
      refine sat_mk (fun _ => ?_) (fun _ => ?_) fun z => absurd z hm
      · rw [he]; exact PE.cD this fun env => by rw [evE] <;> rfl
      · rw [he]; exact PE.cT this.anyT fun env => by rw [evE] <;> rfl
  | .cmp o a b, G, C, W, m, e, k, h => by
    unfold chk at h
    split at h <;> first | (cases h; done) | skip
    rename_i x o' y _ he
    obtain ⟨h, h4⟩ := and3 h
    obtain ⟨h, h3⟩ := and3 h
    obtain ⟨h1, h2⟩ := and3 h
    obtain ⟨r, hr, hg⟩ := cmp_tab (X := X) k.hK k.un o
    have e2 : o' = o := eq_of_beq h1
    subst e2
    have ha := (chk_ok a k h3).2.1 rfl
    have hb := (chk_ok b k h4).2.1 rfl
    exact sat_cmp he (PE.cD (dx_cmp hr hg ha hb (marks_no (notStar h2))) fun env => by rw [evE] <;> rfl) (PT.cB (dt_cmp hr hg ha hb (marks_no (notStar h2)) (bl_cmp o')) fun env => by rw [evE] <;> rfl) fun _ _ _ z => by cases z
  | .cmp2 o1 o2 a b c, G, C, W, m, e, k, h => by
    unfold chk at h
    split at h <;> first | (cases h; done) | skip
    rename_i x o1' o2' y z _ he
    obtain ⟨h, h6⟩ := and3 h
    obtain ⟨h, h5⟩ := and3 h
    obtain ⟨h, h4⟩ := and3 h
    obtain ⟨h, h3⟩ := and3 h
    obtain ⟨h1, h2⟩ := and3 h
    obtain ⟨r, hr, hg⟩ := cmp_tab (X := X) k.hK k.un o1
    obtain ⟨r2, hr2, hg2⟩ := cmp_tab (X := X) k.hK k.un o2
    have e2 : o1' = o1 := eq_of_beq h1
    have e3 : o2' = o2 := eq_of_beq h2
    subst e2
    subst e3
    have ha := (chk_ok a k h4).2.1 rfl
    have hb := (chk_ok b k h5).2.1 rfl
    have hc := (chk_ok c k h6).2.1 rfl
    have hm : lastMarks [o1', o2'] [y, z] = false := marks_no (notStar h3)
    exact sat_cmp he (PE.cD (dx_cmp2 hr hr2 hg hg2 ha hb hc hm (bl_cmp o1')) fun env => by rw [evE] <;> rfl) (PT.cB (dt_cmp2 hr hr2 hg hg2 ha hb hc hm (bl_cmp o1') (bl_cmp o2')) fun env => by rw [evE] <;> rfl) fun _ _ _ z => by cases z
  | .and a b, G, C, W, m, e, k, h => by
    unfold chk at h
    split at h <;> first | (cases h; done) | skip
    rename_i x y r p he
    by_cases hm : m = 2
    · subst hm
      have h : (chk a G 2 x && chk b G 2 (.BoolOp .And (y :: r) p)) = true := h
      obtain ⟨h1, h2⟩ := and3 h
      refine sat_mk (fun z => by cases z) (fun z => by cases z) fun _ => ?_
      rw [he]
      have w : PW C (.BoolOp .And (x :: y :: r) p) (tB X W fun env => (evE cl (.and a b) env).bind truM) := PW.cB (dw_and ((chk_ok a k h1).2.2 rfl).1 (((chk_ok b k h2).2.2 rfl).2 _ _ _ rfl)) fun env => by rw [evE] <;> rfl
      exact ⟨w.pt, fun _ _ _ _ => w⟩
    · rw [if_neg (by simpa using hm)] at h
      obtain ⟨h1, h2⟩ := and3 h
      have := dx_and (W := W) k.hK ((chk_ok a k h1).1 rfl) ((chk_ok b k h2).1 rfl)
      refine sat_mk (fun _ => ?_) (fun _ => ?_) fun z => absurd z hm
      · rw [he]; exact PE.cD this fun env => by rw [evE] <;> rfl
      · rw [he]; exact PE.cT this.anyT fun env => by rw [evE] <;> rfl
  | .or a b, G, C, W, m, e, k, h => by
    unfold chk at h
    split at h <;> first | (cases h; done) | skip
    rename_i x y r p he
    by_cases hm : m = 2
    · subst hm
      have h : (chk a G 2 x && chk b G 2 (.BoolOp .Or (y :: r) p)) = true := h
      obtain ⟨h1, h2⟩ := and3 h
      refine sat_mk (fun z => by cases z) (fun z => by cases z) fun _ => ?_
      rw [he]
      have w : PW C (.BoolOp .Or (x :: y :: r) p) (tB X W fun env => (evE cl (.or a b) env).bind truM) := PW.cB (dw_or ((chk_ok a k h1).2.2 rfl).1 (((chk_ok b k h2).2.2 rfl).2 _ _ _ rfl)) fun env => by rw [evE] <;> rfl
      exact ⟨w.pt, fun _ _ _ _ => w⟩
    · rw [if_neg (by simpa using hm)] at h
      obtain ⟨h1, h2⟩ := and3 h
      have := dx_or (W := W) k.hK ((chk_ok a k h1).1 rfl) ((chk_ok b k h2).1 rfl)
      refine sat_mk (fun _ => ?_) (fun _ => ?_) fun z => absurd z hm
      · rw [he]; exact PE.cD this fun env => by rw [evE] <;> rfl
      · rw [he]; exact PE.cT this.anyT fun env => by rw [evE] <;> rfl
  | .ite t a b, G, C, W, m, e, k, h => by
    unfold chk at h
    split at h <;> first | (cases h; done) | skip
    rename_i x y z p he
    obtain ⟨h, h4⟩ := and3 h
    obtain ⟨h, h3⟩ := and3 h
    obtain ⟨h1, h2⟩ := and3 h
    have ht := ((chk_ok t k h2).2.2 rfl).1
    have sa := chk_ok a k h3
    have sb := chk_ok b k h4
    refine sat_mk (fun z => ?_) (fun z => ?_) fun z => by subst z; cases h1
    · rw [he]; exact PE.cD (dx_ite (tr := false) ht (sa.1 z) (sb.1 z)) fun env => by rw [evE] <;> rfl
    · rw [he]; exact PE.cT (dx_ite (tr := true) ht (sa.2.1 z) (sb.2.1 z)) fun env => by rw [evE] <;> rfl
  | .tup es, G, C, W, m, e, k, h => by
    unfold chk at h
    split at h <;> first | (cases h; done) | skip
    rename_i xs _ _ he
    exact sat_val k.hK he (PE.cD (dx_tup ((chks_ok es k h).1 rfl)) fun env => by rw [evE] <;> rfl) rfl
  | .lst es, G, C, W, m, e, k, h => by
    unfold chk at h
    split at h <;> first | (cases h; done) | skip
    rename_i xs _ he
    exact sat_val k.hK he (PE.cD (dx_lst ((chks_ok es k h).1 rfl)) fun env => by rw [evE] <;> rfl) rfl
  | .sub a i, G, C, W, m, e, k, h => by
    unfold chk at h
    split at h <;> first | (cases h; done) | skip
    rename_i x y _ he
    obtain ⟨h, h3⟩ := and3 h
    obtain ⟨h1, h2⟩ := and3 h
    exact sat_val k.hK he (PE.cD (dx_sub k.hK ((chk_ok a k h2).2.1 rfl) ((chk_ok i k h3).2.1 rfl) (plain_ix (notStar h1))) fun env => by rw [evE] <;> rfl) rfl
  | .slice a lo hi, G, C, W, m, e, k, h => by
    unfold chk at h
    split at h <;> first | (cases h; done) | skip
    rename_i x l hh _ _ he
    obtain ⟨h, h3⟩ := and3 h
    obtain ⟨h1, h2⟩ := and3 h
    exact sat_val k.hK he (PE.cD (dx_slice k.hK ((chk_ok a k h1).2.1 rfl) (chkO_ok lo k h2) (chkO_ok hi k h3)) fun env => by rw [evE] <;> rfl) rfl
  | .call f es, G, C, W, m, e, k, h => by
    unfold chk at h
    split at h <;> first | (cases h; done) | skip
    rename_i x p y ys pos he
    obtain ⟨h, h3⟩ := and3 h
    obtain ⟨h, h2⟩ := and3 h
    obtain ⟨h1, hst⟩ := and3 h
    obtain ⟨g1, hf, hdb⟩ := Gx.fn_ok k h1
    obtain ⟨addr, fd, ps, n, m1, kp, hb, hr, F⟩ := k.fns x f hf
    obtain ⟨Wx, tk, hW⟩ := k.wx
    exact sat_val k.hK he (PE.cD (dx_call F hr g1 m1 kp hb tk hW ((chks_ok es k h3).1 rfl) hdb (starEach_one (notStar hst)) (plain_star (notStar h2))) fun env => by rw [evE] <;> rfl) rfl
  | .callB f es, G, C, W, m, e, k, h => by
    unfold chk at h
    split at h <;> first | (cases h; done) | skip
    rename_i x p y ys pos he
    obtain ⟨h, h3⟩ := and3 h
    obtain ⟨h, h2⟩ := and3 h
    obtain ⟨h1, hst⟩ := and3 h
    obtain ⟨g1, hf, hdb⟩ := Gx.fn_ok k h1
    obtain ⟨addr, fd, ps, n, m1, kp, hb, hr, F⟩ := k.fns x f hf
    obtain ⟨Wx, tk, hW⟩ := k.wx
    exact sat_val k.hK he (PE.cD (dx_callB F hr g1 m1 kp hb tk hW ((chks_ok es k h3).2 rfl) hdb (starEach_one (notStar hst)) (plain_star (notStar h2))) fun env => by rw [evE] <;> rfl) rfl
  | .isi a ts, G, C, W, m, e, k, h => by
    unfold chk at h
    split at h <;> first | (cases h; done) | skip
    rename_i x p y z p2 pos T he
    obtain ⟨h, h7⟩ := and3 h
    obtain ⟨h, h6⟩ := and3 h
    obtain ⟨h, h5⟩ := and3 h
    obtain ⟨h, h4⟩ := and3 h
    obtain ⟨h, h3⟩ := and3 h
    obtain ⟨h1, h2⟩ := and3 h
    have ex := eq_of_beq h1
    have ez := eq_of_beq h4
    obtain ⟨g1, m1⟩ := Gx.bi_ok k h2
    obtain ⟨g2, m2⟩ := Gx.bi_ok k h3
    have nT : isCls T = false := notStar h5
    obtain ⟨b1, b2, b3⟩ := ty_boot nT
    rw [← ez] at b1 b2 b3
    have hT : ∀ c, T ≠ .cls c := fun c z => by rw [z] at nT; cases nT
    exact sat_val k.hK he (PE.cD (isi_one k.hK g1 m1 ex g2 m2 b1 b2 b3 hT ((chk_ok a k h7).2.1 rfl) (starEach_one (notStar h6))) fun env => by rw [evE] <;> rfl) rfl
  | .bi b es, G, C, W, m, e, k, h => by
    unfold chk at h
    split at h <;> first | (cases h; done) | skip
    rename_i x p y ys pos he
    obtain ⟨h, h4⟩ := and3 h
    obtain ⟨h, h3⟩ := and3 h
    obtain ⟨h, hst⟩ := and3 h
    obtain ⟨h1, h2⟩ := and3 h
    have ex := eq_of_beq h1
    subst ex
    obtain ⟨g1, m1⟩ := Gx.bi_ok k h2
    obtain ⟨n1, n2⟩ := bf_name b
    have ha := (chks_ok es k h4).2 rfl
    have he1 : starEach (y :: ys) C.env = (false, eval y C.env) :: starEach ys C.env := starEach_one (notStar hst)
    refine sat_val k.hK he ?_ rfl
    rcases bf_tab (X := X) k.hK k.calm b with ⟨id, r, c1, c2, c3⟩ | ⟨T, r, c1, c2, c3⟩
    · exact PE.cD (dx_fn c1 c2 g1 m1 c3 ha n1 n2 he1 (plain_star (notStar h3))) fun env => by rw [evE] <;> rfl
    · exact PE.cD (dx_ty c1 c2 g1 m1 c3 ha n1 n2 he1 (plain_star (notStar h3))) fun env => by rw [evE] <;> rfl
  | .bm b a es, G, C, W, m, e, k, h => by
    unfold chk at h
    split at h <;> first | (cases h; done) | skip
    · rename_i y nm apos pos he
      obtain ⟨h, h4⟩ := and3 h
      obtain ⟨h, h3⟩ := and3 h
      obtain ⟨h1, h2⟩ := and3 h
      have en := eq_of_beq h1
      subst en
      refine sat_val k.hK he (PE.cD (dx_bits ((chk_ok a k h4).2.1 rfl) (base_no (notStar h2)) h3) fun env => ?_) rfl
      rw [evE]
      funext s
      unfold M.bind
      cases evE cl a env s with
      | ok p => dsimp only; rw [evEs]; rfl
      | exc _ _ _ => rfl
      | stuck => rfl
    · rename_i y nm apos z pos f he
      obtain ⟨h, h6⟩ := and3 h
      obtain ⟨h, h5⟩ := and3 h
      obtain ⟨h, h4⟩ := and3 h
      obtain ⟨h, h3⟩ := and3 h
      obtain ⟨h1, h2⟩ := and3 h
      have en := eq_of_beq h1
      subst en
      have hz : PA C [z] (tTs X W (evEs cl (.cons f .nil))) := PA.cT (dxT_cons ((chk_ok f k h6).2.1 rfl) dxT_nil (starEach_one (notStar h3))) fun env => by rw [evEs, evEs] <;> rfl
      exact sat_val k.hK he (dx_index k.hK k.un ((chk_ok a k h5).2.1 rfl) hz (notStar h3) (notStar h2) h4) rfl
  | .lc t kk it cs b own, G, C, W, m, e, k, h => by
    unfold chk at h
    split at h <;> first | (cases h; done) | skip
    rename_i elt tg iter ifs scope pos he
    obtain ⟨h, h7⟩ := and3 h
    obtain ⟨h, h6⟩ := and3 h
    obtain ⟨h, h5⟩ := and3 h
    obtain ⟨h, h4⟩ := and3 h
    obtain ⟨h, h3⟩ := and3 h
    obtain ⟨h1, h2⟩ := and3 h
    have ok : BlkOk C.N C.env.scope scope (G.own own) := by rw [k.hN, k.sc]; exact blkOk_by h1
    have := dx_lc (pos := pos) k.hK k.calm k.nd (chkI_ok it (tr := true) (W := W) k h4) ok (fun s H A c fp => chkT_ok t (W := W0) (k.blk s H scope A c fp) h5) (by rw [own_map]; exact all_mem h3)
      (fun s H A c fp => chkCs_ok cs (k.blk s H scope A c fp) h6) (fun s H A c fp => (chk_ok b (k.blk s H scope A c fp) h7).1 rfl) (folded_no (notStar h2))
    rw [own_map] at this
    exact sat_val k.hK he this rfl
  | .lc2 t kk it cs t1 k1 it1 cs1 b own own1, G, C, W, m, e, k, h => by
    unfold chk at h
    split at h <;> first | (cases h; done) | skip
    rename_i elt tg iter ifs tg1 iter1 ifs1 scope pos he
    obtain ⟨h, h13⟩ := and3 h
    obtain ⟨h, h12⟩ := and3 h
    obtain ⟨h, h11⟩ := and3 h
    obtain ⟨h, h10⟩ := and3 h
    obtain ⟨h, h9⟩ := and3 h
    obtain ⟨h, h8⟩ := and3 h
    obtain ⟨h, h7⟩ := and3 h
    obtain ⟨h, h6⟩ := and3 h
    obtain ⟨h, h5⟩ := and3 h
    obtain ⟨h, h4⟩ := and3 h
    obtain ⟨h, h3⟩ := and3 h
    obtain ⟨h1, h2⟩ := and3 h
    have ok : BlkOk C.N C.env.scope scope (G.own own) := by rw [k.hN, k.sc]; exact blkOk_by h1
    have := dx_lc2 (pos := pos) k.hK k.calm k.nd (chkI_ok it (tr := true) (W := W) k h7) ok (by rw [own_map]; exact all_mem h5) (fun s H A c fp => chkT_ok t (W := W0) (k.blk s H scope A c fp) h8) (by rw [own_map]; exact all_mem h4)
      (fun s H A c fp => chkCs_ok cs (k.blk s H scope A c fp) h9) (fun s H A c fp => chkI_ok it1 (tr := false) (k.blk s H scope A c fp) h10) (fun s H A c fp => chkT_ok t1 (W := W0) (k.blk s H scope A c fp) h11) (all_mem h6)
      (fun s H A c fp => chkCs_ok cs1 (k.blk s H scope A c fp) h12) (fun s H A c fp => (chk_ok b (k.blk s H scope A c fp) h13).1 rfl) (folded_no (notStar h2)) (fun env => folded_no (notStar h3))
    rw [own_map] at this
    exact sat_val k.hK he this rfl
  | .nev, G, C, W, m, e, k, h => by
    refine ⟨fun _ => ⟨fun pins s σ H Q I ⟨R, env, sto, S, E, o⟩ => ?_⟩, fun _ => ⟨fun pins s σ H Q I ⟨R, env, sto, S, E, o⟩ => ?_⟩, fun _ => ⟨⟨fun pins s σ H Q I ⟨R, env, sto, S, E, o⟩ => ?_⟩, fun _ _ _ _ => ⟨fun _ pins s σ H Q I ⟨R, env, sto, S, E, o⟩ => ?_⟩⟩⟩
    · unfold evE at o; exact o.elim
    · unfold evE at o; exact o.elim
    · unfold evE at o; exact o.elim
    · unfold evE at o; exact o.elim
  | .kget t a b, G, C, W, m, e, k, h => by
    unfold chk at h
    split at h <;> first | (cases h; done) | skip
    rename_i x np nm apos u v pos he
    obtain ⟨h, h10⟩ := and3 h
    obtain ⟨h, h9⟩ := and3 h
    obtain ⟨h, h8⟩ := and3 h
    obtain ⟨h, h7⟩ := and3 h
    obtain ⟨h, h6⟩ := and3 h
    obtain ⟨h, h5⟩ := and3 h
    obtain ⟨h, h4⟩ := and3 h
    obtain ⟨h, h3⟩ := and3 h
    obtain ⟨h1, h2⟩ := and3 h
    have e1 := eq_of_beq h1
    have e2 := eq_of_beq h2
    subst e1
    subst e2
    obtain ⟨p, hm, T⟩ := k.dcs x (by simpa using h5)
    have hdb : (x == ("__debug__" : Str)) = false := by
      unfold nmOk at h4
      exact notStar (and3 h4).1
    have hu := notStar h6
    have hv := notStar h7
    have M : M2 C (.Name x np) "get" apos u v pos := ⟨base_no rfl, by rw [starEach_one hu, starEach_one hv]; rfl, h8, by rw [starEach_one hu, starEach_one hv]; rfl⟩
    exact sat_val k.hK he (PE.cD (dx_kget (Gx.glo_ok k h3) hm hdb T ((chk_ok a k h9).2.1 rfl) ((chk_ok b k h10).1 rfl) M) fun env => by rw [evE] <;> rfl) rfl
  | .dcT _ _ _ _ _ _ _, G, C, W, m, e, k, h => by unfold chk at h; cases h
  | .fld _ _, G, C, W, m, e, k, h => by unfold chk at h; cases h
  | .make _ _, G, C, W, m, e, k, h => by unfold chk at h; cases h
theorem chks_ok : ∀ (t : Es) {G : Gx} {C : Cx} {W : WD} {m : Nat} {es : List Expr}, Cok X cl G W C → chks t G m es = true → SatA X W C cl m es t
  | .nil, G, C, W, m, es, k, h => by
    unfold chks at h
    cases es with
    | nil => exact ⟨fun _ => PA.cD dx_nil fun env => by rw [evEs] <;> rfl, fun _ => PA.cT dxT_nil fun env => by rw [evEs] <;> rfl⟩
    | cons _ _ => cases h
  | .cons t r, G, C, W, m, es, k, h => by
    unfold chks at h
    split at h <;> first | (cases h; done) | skip
    rename_i e rest
    obtain ⟨h, h3⟩ := and3 h
    obtain ⟨h1, h2⟩ := and3 h
    have s1 := chk_ok t k h2
    have s2 := chks_ok r k h3
    exact ⟨fun z => PA.cD (dx_cons (s1.1 z) (s2.1 z) (starEach_one (notStar h1))) fun env => by rw [evEs] <;> rfl, fun z => PA.cT (dxT_cons (s1.2.1 z) (s2.2 z) (starEach_one (notStar h1))) fun env => by rw [evEs] <;> rfl⟩
  | .star t r, G, C, W, m, es, k, h => by
    unfold chks at h
    split at h <;> first | (cases h; done) | skip
    obtain ⟨h2, h3⟩ := and3 h
    have s1 := (chk_ok t k h2).2.1 rfl
    have s2 := chks_ok r k h3
    exact ⟨fun z => PA.cD (dx_star k.hK s1 (s2.1 z)) fun env => by rw [evEs] <;> rfl, fun z => PA.cT (dxT_star k.hK s1 (s2.2 z)) fun env => by rw [evEs] <;> rfl⟩
theorem chkO_ok : ∀ (t : Op) {G : Gx} {C : Cx} {W : WD} {e : Option Expr}, Cok X cl G W C → chkO t G e = true → PO C e (tO X W (evO cl t))
  | .no, G, C, W, e, k, h => by
    unfold chkO at h
    cases e with
    | none =>
      have : evO cl .no = fun _ => M.pure none := funext fun env => by rw [evO] <;> rfl
      rw [this]; exact do_no
    | some _ => cases h
  | .ex t, G, C, W, e, k, h => by
    unfold chkO at h
    split at h <;> first | (cases h; done) | skip
    have : evO cl (.ex t) = fun env => (evE cl t env).bind fun x => match x with
      | .int i => M.pure (some i)
      | _ => stuck := funext fun env => by rw [evO] <;> rfl
    rw [this]
    exact do_ex ((chk_ok t k h).2.1 rfl)
theorem chkCs_ok : ∀ (t : Es) {G : Gx} {C : Cx} {W : WD} {es : List Expr}, Cok X cl G W C → chkCs t G es = true → PTs C es (tB X W (evCs cl t))
  | .nil, G, C, W, es, k, h => by
    unfold chkCs at h
    cases es with
    | nil =>
      have : evCs cl .nil = fun _ => M.pure true := funext fun env => by rw [evCs] <;> rfl
      rw [this]; exact dcs_nil
    | cons _ _ => cases h
  | .cons t r, G, C, W, es, k, h => by
    unfold chkCs at h
    split at h <;> first | (cases h; done) | skip
    have : evCs cl (.cons t .nil) = fun env => (evE cl t env).bind truM := funext fun env => by
      rw [evCs]
      funext s
      unfold M.bind truM
      cases evE cl t env s with
      | ok p =>
        dsimp only
        cases truth p.1 with
        | none => rfl
        | some b =>
          cases b with
          | false => rfl
          | true => show evCs cl .nil env p.2 = _; rw [evCs]; rfl
      | exc _ _ _ => rfl
      | stuck => rfl
    rw [this]
    exact pts_one ((chk_ok t k h).2.2 rfl).1
  | .star t r, G, C, W, es, k, h => by unfold chkCs at h; cases h
theorem chkI_ok : ∀ (t : Es) {kk : Itb} {G : Gx} {C : Cx} {W : WD} {tr : Bool} {tg e : Expr}, Cok X cl G W C → chkI t kk G tr tg e = true → PI C tg e (tI X W tr fun env => (evEs cl t env).bind (itD kk))
  | .nil, kk, G, C, W, tr, tg, e, k, h => by unfold chkI at h; cases h
  | .star t r, kk, G, C, W, tr, tg, e, k, h => by unfold chkI at h; cases h
  | .cons t r, kk, G, C, W, tr, tg, e, k, h => by
    unfold chkI at h
    have e1 : ∀ (t : E) (env : Env), evEs cl (.cons t .nil) env = (evE cl t env).bind fun x => M.pure [x] := fun t env => by
      rw [evEs, evEs]; rfl
    have one : ∀ {a : Expr} (t : E), isStar a = false → Sat X W C cl (if tr then 1 else 0) a t → PA C [a] (tXs X W tr (evEs cl (.cons t .nil))) := fun {a} t hs s => by
      cases tr with
      | true => exact PA.cT (dxT_cons (s.2.1 rfl) dxT_nil (starEach_one hs)) fun env => by rw [evEs, evEs] <;> rfl
      | false => exact PA.cD (dx_cons (s.1 rfl) dx_nil (starEach_one hs)) fun env => by rw [evEs, evEs] <;> rfl
    have two : ∀ {a b : Expr} (t u : E), isStar a = false → isStar b = false → Sat X W C cl (if tr then 1 else 0) a t → Sat X W C cl (if tr then 1 else 0) b u → PA C [a, b] (tXs X W tr (evEs cl (.cons t (.cons u .nil)))) := fun {a b} t u hs hs2 s s2 => by
      have o := one u hs2 s2
      cases tr with
      | true => exact PA.cT (dxT_cons (s.2.1 rfl) o (starEach_one hs)) fun env => by rw [evEs] <;> rfl
      | false => exact PA.cD (dx_cons (s.1 rfl) o (starEach_one hs)) fun env => by rw [evEs] <;> rfl
    have three : ∀ {a b c : Expr} (t u v : E), isStar a = false → isStar b = false → isStar c = false → Sat X W C cl (if tr then 1 else 0) a t → Sat X W C cl (if tr then 1 else 0) b u → Sat X W C cl (if tr then 1 else 0) c v → PA C [a, b, c] (tXs X W tr (evEs cl (.cons t (.cons u (.cons v .nil))))) := fun {a b c} t u v hs hs2 hs3 s s2 s3 => by
      have o := two u v hs2 hs3 s2 s3
      cases tr with
      | true => exact PA.cT (dxT_cons (s.2.1 rfl) o (starEach_one hs)) fun env => by rw [evEs] <;> rfl
      | false => exact PA.cD (dx_cons (s.1 rfl) o (starEach_one hs)) fun env => by rw [evEs] <;> rfl
    split at h <;> first | (cases h; done) | skip
    · have s := chk_ok t k h
      refine PI.cI (di_seq k.hK (Sat.x s rfl)) fun env => ?_
      rw [e1]; rfl
    · split at h <;> first | (cases h; done) | skip
      obtain ⟨h, h4⟩ := and3 h
      obtain ⟨h, h3⟩ := and3 h
      obtain ⟨h1, h2⟩ := and3 h
      have en := eq_of_beq h1
      subst en
      obtain ⟨g1, m1⟩ := Gx.bi_ok k h2
      refine PI.cI (di_rev k.hK g1 m1 (Sat.x (chk_ok t k h4) rfl) (starEach_one (notStar h3))) fun env => ?_
      rw [e1]; rfl
    · split at h <;> first | (cases h; done) | skip
      obtain ⟨h, h4⟩ := and3 h
      obtain ⟨h, h3⟩ := and3 h
      obtain ⟨h1, h2⟩ := and3 h
      have en := eq_of_beq h1
      subst en
      obtain ⟨g1, m1⟩ := Gx.bi_ok k h2
      exact di_range1 g1 m1 (one t (notStar h3) (chk_ok t k h4)) (starEach_one (notStar h3))
    · split at h <;> first | (cases h; done) | skip
      rename_i u _ _ _ _ _ _ _ _
      obtain ⟨h, h6⟩ := and3 h
      obtain ⟨h, h5⟩ := and3 h
      obtain ⟨h, h4⟩ := and3 h
      obtain ⟨h, h3⟩ := and3 h
      obtain ⟨h1, h2⟩ := and3 h
      have en := eq_of_beq h1
      subst en
      obtain ⟨g1, m1⟩ := Gx.bi_ok k h2
      exact di_range2 g1 m1 (two t _ (notStar h3) (notStar h4) (chk_ok t k h5) (chk_ok _ k h6)) (by rw [starEach_one (notStar h3), starEach_one (notStar h4)]; rfl) (starEach_one (notStar h4))
    · split at h <;> first | (cases h; done) | skip
      obtain ⟨h, h8⟩ := and3 h
      obtain ⟨h, h7⟩ := and3 h
      obtain ⟨h, h6⟩ := and3 h
      obtain ⟨h, h5⟩ := and3 h
      obtain ⟨h, h4⟩ := and3 h
      obtain ⟨h, h3⟩ := and3 h
      obtain ⟨h1, h2⟩ := and3 h
      have en := eq_of_beq h1
      subst en
      obtain ⟨g1, m1⟩ := Gx.bi_ok k h2
      exact di_range3 g1 m1 (three t _ _ (notStar h3) (notStar h4) (notStar h5) (chk_ok t k h6) (chk_ok _ k h7) (chk_ok _ k h8)) (starEach_one (notStar h3)) (by rw [starEach_one (notStar h4), starEach_one (notStar h5)]; rfl)
    · split at h <;> first | (cases h; done) | skip
      obtain ⟨h, h4⟩ := and3 h
      obtain ⟨h, h3⟩ := and3 h
      obtain ⟨h1, h2⟩ := and3 h
      have en := eq_of_beq h1
      subst en
      obtain ⟨g1, m1⟩ := Gx.bi_ok k h2
      exact di_enum k.hK g1 m1 (one t (notStar h3) (chk_ok t k h4)) (starEach_one (notStar h3))
    · split at h <;> first | (cases h; done) | skip
      obtain ⟨h, h6⟩ := and3 h
      obtain ⟨h, h5⟩ := and3 h
      obtain ⟨h, h4⟩ := and3 h
      obtain ⟨h, h3⟩ := and3 h
      obtain ⟨h1, h2⟩ := and3 h
      have en := eq_of_beq h1
      subst en
      obtain ⟨g1, m1⟩ := Gx.bi_ok k h2
      exact di_zip k.hK g1 m1 (two t _ (notStar h3) (notStar h4) (chk_ok t k h5) (chk_ok _ k h6)) (starEach_one (notStar h3)) (by rw [starEach_one (notStar h4)]; rfl)
theorem chkT_ok : ∀ (t : T) {G : Gx} {C : Cx} {W : WD} {e : Expr}, Cok X cl G W C → chkT t G e = true → PG C e (tG X (tvs t) (asgT cl t))
  | .nm i, G, C, W, e, k, h => by
    unfold chkT at h
    split at h <;> first | (cases h; done) | skip
    obtain ⟨h1, h2, h3⟩ := Gx.set_ok k h
    exact dg_nm cl k.nd h1 h2 h3
  | .tp ts, G, C, W, e, k, h => by
    unfold chkT at h
    split at h <;> first | (cases h; done) | skip
    obtain ⟨h1, h2, h3⟩ := chkTs_ok ts (W := W) k h
    exact dg_tup k.hK k.calm h1 h2 h3
  | .sub a b, G, C, W, e, k, h => by
    unfold chkT at h
    split at h <;> first | (cases h; done) | skip
    rename_i x y p
    obtain ⟨h, h3⟩ := and3 h
    obtain ⟨h1, h2⟩ := and3 h
    refine dg_sub k.hK ((chk_ok a (W := W) k h2).2.1 rfl) ((chk_ok b (W := W) k h3).2.1 rfl) (assign_sub (notStar h1))
theorem chkTs_ok : ∀ (t : Ts) {G : Gx} {C : Cx} {W : WD} {es : List Expr}, Cok X cl G W C → chkTs t G es = true → PGs C es (tGs X (tvss t) (asgTs cl t)) ∧ (assignEach es C.env).length = tsLen t ∧ (assignEach es C.env).findIdx? (·.1) = none
  | .nil, G, C, W, es, k, h => by
    unfold chkTs at h
    cases es with
    | nil => exact ⟨dg_nil cl, rfl, rfl⟩
    | cons _ _ => cases h
  | .cons t r, G, C, W, es, k, h => by
    unfold chkTs at h
    split at h <;> first | (cases h; done) | skip
    rename_i e rest
    obtain ⟨h, h3⟩ := and3 h
    obtain ⟨h1, h2⟩ := and3 h
    have hs := notStar h1
    obtain ⟨p1, p2, p3⟩ := chkTs_ok r (W := W) k h3
    refine ⟨dg_cons (chkT_ok t (W := W) k h2) p1 (assign_one hs), ?_, ?_⟩
    · rw [assign_all hs]; show _ + 1 = _ + 1; rw [p2]
    · rw [assign_all hs, List.findIdx?_cons, p3]; rfl
end
end
end Bc

set_option linter.all false
set_option autoImplicit false
set_option maxRecDepth 100000
set_option maxHeartbeats 2000000
namespace Bc
open PySem PySem.Spec L2

/-- a store that is none of the special ones -/
def genOk (G : Gx) (tg v : Expr) : Bool :=
  !isStar tg && (!isComp v || !isName tg || (match tg, v with
    | .Name x px, .ListComp _ _ scope vp => !lcAt G.sc scope x px vp
    | _, _ => false)) &&
  (!isSeq tg || !isSeq v || (match tg, v with
    | .Tuple ts _ _, .Tuple vs _ _ => (!(ts.length == 2 || ts.length == 3) || vs.length != ts.length) || (match vs, ts with
      | [a, b], [t1, t2] => (foldedForSure 8 a && foldedForSure 8 b) || (notLoc G.sc t1 || notLoc G.sc t2)
      | [a, b, c], [t1, t2, t3] => (foldedForSure 8 a && (foldedForSure 8 b && foldedForSure 8 c)) || (notLoc G.sc t1 || (notLoc G.sc t2 || notLoc G.sc t3))
      | _, _ => false)
    | _, _ => false))
def par2 (G : Gx) (t : T) (e : E) (tg v : Expr) : Bool := match t, e, tg, v with
  | .tp (.cons (.nm i) (.cons (.nm j) .nil)), .tup es, .Tuple [.Name x px, .Name y py] _ _, .Tuple [a, b] _ _ =>
    blkFn G.sc && (G.N[i]? == some x) && (G.N[j]? == some y) && (i != j) && (x != y) && (G.sc.names.lookup x == some .local) && (G.sc.names.lookup y == some .local) && (py.line == px.line) && !isStar a && !isStar b &&
      !(foldedForSure 8 a && foldedForSure 8 b) && !(constantsAlone 8 a && constantsAlone 8 b) && chks es G 0 [a, b]
  | _, _, _, _ => false
def par3 (G : Gx) (t : T) (e : E) (tg v : Expr) : Bool := match t, e, tg, v with
  | .tp (.cons (.nm i) (.cons (.nm j) (.cons (.nm l) .nil))), .tup es, .Tuple [.Name x px, .Name y py, .Name z pz] _ _, .Tuple [a, b, c] _ _ =>
    blkFn G.sc && (G.N[i]? == some x) && (G.N[j]? == some y) && (G.N[l]? == some z) && (i != j) && (i != l) && (j != l) && (x != y) && (x != z) && (y != z) && (G.sc.names.lookup x == some .local) && (G.sc.names.lookup y == some .local) && (G.sc.names.lookup z == some .local) &&
      (py.line == px.line) && (pz.line == px.line) && !isStar a && !isStar b && !isStar c &&
      !(foldedForSure 8 a && (foldedForSure 8 b && foldedForSure 8 c)) && !(constantsAlone 8 a && (constantsAlone 8 b && constantsAlone 8 c)) && chks es G 0 [a, b, c]
  | _, _, _, _ => false
def lcA (G : Gx) (t : T) (k : Itb) (it cs : Es) (b : E) (own : List Nat) : Expr → Bool
  | .ListComp elt [⟨tg, iter, ifs, 0⟩] scope _ => blkC G.N G.sc scope (G.own own) && !isSet iter && (tvs t).all (own.contains ·) && chkI it k G true tg iter && chkT t (G.at scope) tg && chkCs cs (G.at scope) ifs && chk b (G.at scope) 0 elt
  | _ => false
def lcB (G : Gx) (t : T) (k : Itb) (it cs : Es) (t1 : T) (k1 : Itb) (it1 cs1 : Es) (b : E) (own own1 : List Nat) : Expr → Bool
  | .ListComp elt [⟨tg, iter, ifs, 0⟩, ⟨tg1, iter1, ifs1, 0⟩] scope _ => blkC G.N G.sc scope (G.own own) && !isSet iter && !isSet iter1 && (tvs t).all (own.contains ·) && own1.all (own.contains ·) && (tvs t1).all (own1.contains ·) && chkI it k G true tg iter && chkT t (G.at scope) tg && chkCs cs (G.at scope) ifs &&
        chkI it1 k1 (G.at scope) false tg1 iter1 && chkT t1 (G.at scope) tg1 && chkCs cs1 (G.at scope) ifs1 && chk b (G.at scope) 0 elt
  | _ => false
def lcPart (G : Gx) (e : E) (v : Expr) : Bool := match e with
  | .lc t k it cs b own => lcA G t k it cs b own v
  | .lc2 t k it cs t1 k1 it1 cs1 b own own1 => lcB G t k it cs t1 k1 it1 cs1 b own own1 v
  | _ => false
/-- a comprehension at a name of its own line -/
def lcSet (G : Gx) (t : T) (e : E) (tg v : Expr) : Bool := match t, tg, v with
  | .nm i, .Name x px, .ListComp _ _ scope vp => (G.N[i]? == some x) && (G.sc.names.lookup x == some .local) && lcAt G.sc scope x px vp && lcPart G e v
  | _, _, _ => false
def dcA (G : Gx) (t : T) (k : Itb) (it cs : Es) (a b : E) (own : List Nat) : Expr → Bool
  | .DictComp kx vx [⟨tg, iter, ifs, 0⟩] scope _ => blkC G.N G.sc scope (G.own own) && !isSet iter && (tvs t).all (own.contains ·) && chkI it k G true tg iter && chkT t (G.at scope) tg && chkCs cs (G.at scope) ifs && chk a (G.at scope) 0 kx && chk b (G.at scope) 0 vx
  | _ => false
def dcSet (G : Gx) (t : T) (e : E) (tg v : Expr) : Bool := match t, e, tg, v with
  | .nm i, .dcT t1 k it cs a b own, .Name x px, .DictComp kx vx gens scope vp => (G.N[i]? == some x) && (G.sc.names.lookup x == some .local) && lcAt G.sc scope x px vp && dcA G t1 k it cs a b own (.DictComp kx vx gens scope vp)
  | _, _, _, _ => false
/-- a list of one's own, made here -/
def newL (G : Gx) (es : Es) : Expr → Bool
  | .List xs _ => chks es G 0 xs
  | _ => false
def newOk (G : Gx) (e : E) (v : Expr) : Bool := match e with
  | .lst es => newL G es v
  | .lc t k it cs b own => lcA G t k it cs b own v
  | _ => false
mutual
def chkS : S → Gx → Stmt → Bool
  | .nev, G, st => true
  | .asg t e, G, st => (match st with
    | .Assign [tg] v _ => (genOk G tg v && chkT t G tg && chk e G 0 v) || par2 G t e tg v || par3 G t e tg v || lcSet G t e tg v || dcSet G t e tg v
    | _ => false)
  | .asgOwn i e, G, st => (match st with
    | .Assign [.Name x px] v _ => G.set i x && newOk G e v && (genOk G (.Name x px) v || ((G.sc.names.lookup x == some .local) && (match v with
      | .ListComp _ [_] scope vp => lcAt G.sc scope x px vp
      | _ => false)))
    | _ => false)
  | .freeze _, _, _ => false
  | .app i e, G, st => (match st with
    | .Expr (.Call (.Attribute (.Name x _) nm apos) [a] [] cpos) _ => (nm == ("append" : Str)) && G.slot i x && !isStar a && (apos.endLine == cpos.line) && chk e G 0 a
    | _ => false)
  | .put i k e, G, st => (match st with
    | .Assign [.Subscript (.Name x _) y _] v _ => G.slot i x && !isSlice y && chk k G 1 y && chk e G 0 v
    | _ => false)
  | .expr e, G, st => (match st with
    | .Expr v _ => !isComp v && chk e G 0 v
    | _ => false)
  | .ret e, G, st => (match st with
    | .Return (some v) _ => chk e G 0 v
    | _ => false)
  | .retN, G, st => (match st with
    | .Return none _ => true
    | _ => false)
  | .retLoc es, G, st => (match st with
    | .Return (some (.List xs _)) _ => chks es G 0 xs
    | _ => false)
  | .ite c a b, G, st => (match st with
    | .If x y z _ => chk c G 2 x && chkSs a G y && chkSs b G z
    | _ => false)
  | .loop t k it b, G, st => (match st with
    | .For tg iter body [] _ => !isSet iter && chkI it k G false tg iter && chkT t G tg && chkSs b G body
    | _ => false)
  | .whil c b, G, st => (match st with
    | .While x body [] _ => chk c G 2 x && chkSs b G body
    | _ => false)
  | .brk, G, st => (match st with
    | .Break _ => true
    | _ => false)
  | .cont, G, st => (match st with
    | .Continue _ => true
    | _ => false)
  | .pass, G, st => (match st with
    | .Pass _ => true
    | .Expr (.Constant (.str _) _ _) _ => true
    | _ => false)
def chkSs : Ss → Gx → List Stmt → Bool
  | .nil, G, sts => sts.isEmpty
  | .cons s r, G, sts => (match s with
    | .freeze _ => chkSs r G sts
    | s => (match sts with
      | st :: rest => chkS s G st && chkSs r G rest
      | [] => false))
end
section
variable {X : Sx} {W : WD} {C : Cx} {cl : Cl} {G : Gx} {w : Nat} {R0 : Rl} {H0 : Hp} {pos : Pos}
structure CokS (X : Sx) (cl : Cl) (G : Gx) (W : WD) (C : Cx) : Prop extends Cok X cl G W C where
  pass : PassesOwn (model C.prog C.w) C.A C.env C.xe
  one : C.N = G.N
theorem _root_.L2.PS.cS {st : Stmt} {f g : Env → M (Fl × Env)} (h : PS C st (tS X W R0 H0 f)) (eq : ∀ env, g env = f env) : PS C st (tS X W R0 H0 g) := by
  have : g = f := funext eq
  rw [this]; exact h
theorem gen_ok (k : Cok X cl G W C) {tg v : Expr} {l : Nat} (h : genOk G tg v = true) : swapsWithSole [tg] v l C.env = pure false ∧ swappedStores [tg] v C.env = pure none ∧ (assignEach [tg] C.env).map (·.2) = [assign tg C.env] := by
  unfold genOk at h
  obtain ⟨h, h3⟩ := and3 h
  obtain ⟨h1, h2⟩ := and3 h
  refine ⟨?_, ?_, assign_one (notStar h1)⟩
  · simp only [Bool.or_eq_true] at h2
    rcases h2 with (h2 | h2) | h2
    · exact sole_no (notStar h2)
    · exact sole_no2 (notStar h2)
    · split at h2
      · exact (swaps_lc (l := l) (env := C.env)).trans (by rw [k.sc, notStar h2])
      · cases h2
  · simp only [Bool.or_eq_true] at h3
    rcases h3 with (h3 | h3) | h3
    · exact stores_no (.inl (notStar h3))
    · exact stores_no (.inr (notStar h3))
    · split at h3 <;> first | (cases h3; done) | skip
      rcases Bool.or_eq_true_iff.mp h3 with h3 | h3
      · exact stores_len h3
      · split at h3 <;> first | (cases h3; done) | skip
        · rcases Bool.or_eq_true_iff.mp h3 with h3 | h3
          · exact stores_folded h3
          · exact stores_cell (by rw [k.sc]; exact h3)
        · rcases Bool.or_eq_true_iff.mp h3 with h3 | h3
          · exact stores_folded3 h3
          · exact stores_cell3 (by rw [k.sc]; exact h3)
theorem par2_ok (k : CokS X cl G W C) {t : T} {e : E} {tg v : Expr} (h : par2 G t e tg v = true) : PS C (.Assign [tg] v pos) (tS X W R0 H0 (evS cl w (.asg t e))) := by
  unfold par2 at h
  split at h <;> first | (cases h; done) | skip
  simp only [Bool.and_eq_true, beq_iff_eq, bne_iff_ne, Bool.not_eq_true'] at h
  obtain ⟨⟨⟨⟨⟨⟨⟨⟨⟨⟨⟨⟨h1, h2⟩, h3⟩, h4⟩, h5⟩, h6⟩, h7⟩, h8⟩, h9⟩, h10⟩, h11⟩, h12⟩, h13⟩ := h
  refine dt_par k.calm k.nd (by rw [k.hN]; exact h2) (by rw [k.hN]; exact h3) h4 (by rw [k.sc]; exact h6) (by rw [k.sc]; exact h7) ((chks_ok _ k.toCok h13).1 rfl) (stores_par k.sc h1 h9 h10 h6 h7 h8 h5 ?_ ?_) (sole_no rfl)
  · exact h11
  · exact h12
theorem par3_ok (k : CokS X cl G W C) {t : T} {e : E} {tg v : Expr} (h : par3 G t e tg v = true) : PS C (.Assign [tg] v pos) (tS X W R0 H0 (evS cl w (.asg t e))) := by
  unfold par3 at h
  split at h <;> first | (cases h; done) | skip
  simp only [Bool.and_eq_true, beq_iff_eq, bne_iff_ne, Bool.not_eq_true'] at h
  obtain ⟨⟨⟨⟨⟨⟨⟨⟨⟨⟨⟨⟨⟨⟨⟨⟨⟨⟨⟨⟨h1, h2⟩, h3⟩, h4⟩, h5⟩, h6⟩, h7⟩, h8⟩, h9⟩, h10⟩, h11⟩, h12⟩, h13⟩, h14⟩, h15⟩, h16⟩, h17⟩, h18⟩, h19⟩, h20⟩, h21⟩ := h
  refine dt_par3 k.calm k.nd (by rw [k.hN]; exact h2) (by rw [k.hN]; exact h3) (by rw [k.hN]; exact h4) h5 h6 h7 (by rw [k.sc]; exact h11) (by rw [k.sc]; exact h12) (by rw [k.sc]; exact h13) ((chks_ok _ k.toCok h21).1 rfl)
    (stores_par3 k.sc h1 h16 h17 h18 h11 h12 h13 h14 h15 h8 h9 h10 ?_ ?_) (sole_no rfl)
  · exact h19
  · exact h20
theorem lcSet_ok (k : CokS X cl G W C) {t : T} {e : E} {tg v : Expr} (h : lcSet G t e tg v = true) : PS C (.Assign [tg] v pos) (tS X W R0 H0 (evS cl w (.asg t e))) := by
  unfold lcSet at h
  split at h <;> first | (cases h; done) | skip
  rename_i i x px elt gens scope vp
  obtain ⟨h, h4⟩ := and3 h
  obtain ⟨h, h3⟩ := and3 h
  obtain ⟨h1, h2⟩ := and3 h
  have hi : C.N[i]? = some x := by rw [k.hN]; exact eq_of_beq h1
  have hx : C.env.scope.names.lookup x = some .local := by rw [k.sc]; exact eq_of_beq h2
  have hw : ∀ l, swapsWith (.ListComp elt gens scope vp) (some (.Name x px)) l C.env = pure true := fun l => (swaps_lc (l := l) (env := C.env)).trans (by rw [k.sc, h3])
  cases e <;> first | (cases h4; done) | skip
  · rename_i t kk it cs b own
    have h4 : lcA G t kk it cs b own (.ListComp elt gens scope vp) = true := h4
    unfold lcA at h4
    split at h4 <;> first | (cases h4; done) | skip
    rename_i elt tg iter ifs scope vpos he
    cases he
    obtain ⟨h, h7⟩ := and3 h4
    obtain ⟨h, h6⟩ := and3 h
    obtain ⟨h, h5⟩ := and3 h
    obtain ⟨h, h4⟩ := and3 h
    obtain ⟨h, h3⟩ := and3 h
    obtain ⟨h1, h2⟩ := and3 h
    have ok : BlkOk C.N C.env.scope scope (G.own own) := by rw [k.hN, k.sc]; exact blkOk_by h1
    have k' := k.toCok
    have := dt_setLc (spos := pos) (w := w) (R0 := R0) (H0 := H0) k.hK k.calm k.nd hi hx (hw _) (chkI_ok it (tr := true) (W := W) k' h4) ok (fun s H A c fp => chkT_ok t (W := W0) (k'.blk s H scope A c fp) h5) (by rw [own_map]; exact all_mem h3)
      (fun s H A c fp => chkCs_ok cs (k'.blk s H scope A c fp) h6) (fun s H A c fp => (chk_ok b (k'.blk s H scope A c fp) h7).1 rfl) (folded_no (notStar h2))
    rw [own_map] at this
    exact this
  · rename_i t kk it cs t1 k1 it1 cs1 b own own1
    have h4 : lcB G t kk it cs t1 k1 it1 cs1 b own own1 (.ListComp elt gens scope vp) = true := h4
    unfold lcB at h4
    split at h4 <;> first | (cases h4; done) | skip
    rename_i elt tg iter ifs tg1 iter1 ifs1 scope vpos he
    cases he
    obtain ⟨h, h13⟩ := and3 h4
    obtain ⟨h, h12⟩ := and3 h
    obtain ⟨h, h11⟩ := and3 h
    obtain ⟨h, h10⟩ := and3 h
    obtain ⟨h, h9⟩ := and3 h
    obtain ⟨h, h8⟩ := and3 h
    obtain ⟨h, h7⟩ := and3 h
    obtain ⟨h, h6⟩ := and3 h
    obtain ⟨h, h5⟩ := and3 h
    obtain ⟨h, h4⟩ := and3 h
    obtain ⟨h, h3⟩ := and3 h
    obtain ⟨h1, h2⟩ := and3 h
    have ok : BlkOk C.N C.env.scope scope (G.own own) := by rw [k.hN, k.sc]; exact blkOk_by h1
    have k' := k.toCok
    have := dt_setLc2 (spos := pos) (w := w) (R0 := R0) (H0 := H0) k.hK k.calm k.nd hi hx (hw _) (chkI_ok it (tr := true) (W := W) k' h7) ok (by rw [own_map]; exact all_mem h5) (fun s H A c fp => chkT_ok t (W := W0) (k'.blk s H scope A c fp) h8) (by rw [own_map]; exact all_mem h4)
      (fun s H A c fp => chkCs_ok cs (k'.blk s H scope A c fp) h9) (fun s H A c fp => chkI_ok it1 (tr := false) (k'.blk s H scope A c fp) h10) (fun s H A c fp => chkT_ok t1 (W := W0) (k'.blk s H scope A c fp) h11) (all_mem h6)
      (fun s H A c fp => chkCs_ok cs1 (k'.blk s H scope A c fp) h12) (fun s H A c fp => (chk_ok b (k'.blk s H scope A c fp) h13).1 rfl) (folded_no (notStar h2)) (fun env => folded_no (notStar h3))
    rw [own_map] at this
    exact this
theorem dcSet_ok (k : CokS X cl G W C) {t : T} {e : E} {tg v : Expr} (h : dcSet G t e tg v = true) : PS C (.Assign [tg] v pos) (tS X W R0 H0 (evS cl w (.asg t e))) := by
  unfold dcSet at h
  split at h <;> first | (cases h; done) | skip
  rename_i i t1 kk it cs a b own x px kx vx gens scope vp
  obtain ⟨h, h4⟩ := and3 h
  obtain ⟨h, h3⟩ := and3 h
  obtain ⟨h1, h2⟩ := and3 h
  have hi : C.N[i]? = some x := by rw [k.hN]; exact eq_of_beq h1
  have hx : C.env.scope.names.lookup x = some .local := by rw [k.sc]; exact eq_of_beq h2
  have hw : ∀ l, swapsWith (.DictComp kx vx gens scope vp) (some (.Name x px)) l C.env = pure true := fun l => (swaps_dc (l := l) (env := C.env)).trans (by rw [k.sc, h3])
  unfold dcA at h4
  split at h4 <;> first | (cases h4; done) | skip
  rename_i kx vx tg iter ifs scope vpos he
  cases he
  obtain ⟨h, h8⟩ := and3 h4
  obtain ⟨h, h7⟩ := and3 h
  obtain ⟨h, h6⟩ := and3 h
  obtain ⟨h, h5⟩ := and3 h
  obtain ⟨h, h4⟩ := and3 h
  obtain ⟨h, h3⟩ := and3 h
  obtain ⟨h1, h2⟩ := and3 h
  have ok : BlkOk C.N C.env.scope scope (G.own own) := by rw [k.hN, k.sc]; exact blkOk_by h1
  have k' := k.toCok
  have hns : ∀ n ∈ tvs t1, n ∈ (G.own own).map (·.2) := by rw [own_map]; exact all_mem h3
  have := ps_setDcT (spos := pos) (by have := k'.un; omega) k.calm k.nd hi hx (hw _) (chkI_ok it (tr := true) (W := W) k' h4) ok (fun s H A c fp => chkT_ok t1 (W := W0) (k'.blk s H scope A c fp) h5)
    (fun s H A c fp => chkCs_ok cs (k'.blk s H scope A c fp) h6) (fun s H A c fp => (chk_ok a (k'.blk s H scope A c fp) h7).1 rfl) (fun s H A c fp => (chk_ok b (k'.blk s H scope A c fp) h8).1 rfl) (folded_no (notStar h2))
  rw [own_map] at this hns
  exact this.weak fun De σ H h => dc_read (set_val h) hns
theorem newOk_ok (k : Cok X cl G W C) {e : E} {v : Expr} (h : newOk G e v = true) : PE C v (tN X W (evE cl e)) := by
  cases e <;> first | (cases h; done) | skip
  · rename_i es
    have h : newL G es v = true := h
    unfold newL at h
    split at h <;> first | (cases h; done) | skip
    exact dn_lst ((chks_ok _ k h).1 rfl)
  · rename_i t kk it cs b own
    have h : lcA G t kk it cs b own v = true := h
    unfold lcA at h
    split at h <;> first | (cases h; done) | skip
    rename_i elt tg iter ifs scope vpos _
    obtain ⟨h, h7⟩ := and3 h
    obtain ⟨h, h6⟩ := and3 h
    obtain ⟨h, h5⟩ := and3 h
    obtain ⟨h, h4⟩ := and3 h
    obtain ⟨h, h3⟩ := and3 h
    obtain ⟨h1, h2⟩ := and3 h
    have ok : BlkOk C.N C.env.scope scope (G.own own) := by rw [k.hN, k.sc]; exact blkOk_by h1
    have := dn_lc (pos := vpos) k.hK k.calm k.nd (chkI_ok it (tr := true) (W := W) k h4) ok (fun s H A c fp => chkT_ok t (W := W0) (k.blk s H scope A c fp) h5) (by rw [own_map]; exact all_mem h3)
      (fun s H A c fp => chkCs_ok cs (k.blk s H scope A c fp) h6) (fun s H A c fp => (chk_ok b (k.blk s H scope A c fp) h7).1 rfl) (folded_no (notStar h2))
    rw [own_map] at this
    exact this
theorem ownLc_ok (k : CokS X cl G W C) {i : Nat} {e : E} {x : Str} {px : Pos} {elt : Expr} {gen : Comprehension} {scope : Scope} {vp : Pos} (hi : C.N[i]? = some x) (hx : G.sc.names.lookup x = some .local) (hl : lcAt G.sc scope x px vp = true) (h : newOk G e (.ListComp elt [gen] scope vp) = true) :
    PS C (.Assign [.Name x px] (.ListComp elt [gen] scope vp) pos) (tS X W R0 H0 (evS cl w (.asgOwn i e))) := by
  have hw : ∀ l, swapsWith (.ListComp elt [gen] scope vp) (some (.Name x px)) l C.env = pure true := fun l => (swaps_lc (l := l) (env := C.env)).trans (by rw [k.sc, hl])
  cases e <;> first | (cases h; done) | skip
  rename_i t kk it cs b own
  have h : lcA G t kk it cs b own (.ListComp elt [gen] scope vp) = true := h
  unfold lcA at h
  split at h <;> first | (cases h; done) | skip
  rename_i elt tg iter ifs scope vpos he
  cases he
  obtain ⟨h, h7⟩ := and3 h
  obtain ⟨h, h6⟩ := and3 h
  obtain ⟨h, h5⟩ := and3 h
  obtain ⟨h, h4⟩ := and3 h
  obtain ⟨h, h3⟩ := and3 h
  obtain ⟨h1, h2⟩ := and3 h
  have ok : BlkOk C.N C.env.scope scope (G.own own) := by rw [k.hN, k.sc]; exact blkOk_by h1
  have k' := k.toCok
  have := dt_ownLc (spos := pos) (w := w) (R0 := R0) (H0 := H0) k.hK k.calm k.nd hi (by rw [k.sc]; exact hx) (hw _) (chkI_ok it (tr := true) (W := W) k' h4) ok (fun s H A c fp => chkT_ok t (W := W0) (k'.blk s H scope A c fp) h5) (by rw [own_map]; exact all_mem h3)
    (fun s H A c fp => chkCs_ok cs (k'.blk s H scope A c fp) h6) (fun s H A c fp => (chk_ok b (k'.blk s H scope A c fp) h7).1 rfl) (folded_no (notStar h2))
  rw [own_map] at this
  exact this
mutual
theorem chkS_ok : ∀ (s : S) {st : Stmt}, CokS X cl G W C → chkS s G st = true → PS C st (tS X W R0 H0 (evS cl w s))
  | .asg t e, st, k, h => by
    unfold chkS at h
    split at h <;> first | (cases h; done) | skip
    rename_i tg v pos
    simp only [Bool.or_eq_true] at h
    rcases h with (((h | h) | h) | h) | h
    · obtain ⟨h, h3⟩ := and3 h
      obtain ⟨h1, h2⟩ := and3 h
      obtain ⟨g1, g2, g3⟩ := gen_ok (l := pos.line) k.toCok h1
      exact dt_asg ((chk_ok e k.toCok h3).1 rfl) (chkT_ok t (W := W) k.toCok h2) g1 g2 g3
    · exact par2_ok k h
    · exact par3_ok k h
    · exact lcSet_ok k h
    · exact dcSet_ok k h
  | .asgOwn i e, st, k, h => by
    unfold chkS at h
    split at h <;> first | (cases h; done) | skip
    rename_i x px v pos
    obtain ⟨h, h3⟩ := and3 h
    obtain ⟨h1, h2⟩ := and3 h
    obtain ⟨s1, s2, s3⟩ := Gx.set_ok k.toCok h1
    rcases Bool.or_eq_true_iff.mp h3 with h3 | h3
    · obtain ⟨g1, g2, g3⟩ := gen_ok (l := pos.line) k.toCok h3
      exact dt_own k.nd s1 s2 (newOk_ok k.toCok h2) g1 s3
    · obtain ⟨h5, h4⟩ := and3 h3
      split at h4 <;> first | (cases h4; done) | skip
      exact ownLc_ok k s1 (eq_of_beq h5) h4 h2
  | .nev, st, k, h => ⟨fun pins s σ H D I ⟨R, env, sto, A, o⟩ => by unfold evS at o; exact o.elim⟩
  | .freeze i, st, k, h => by unfold chkS at h; cases h
  | .app i e, st, k, h => by
    unfold chkS at h
    split at h <;> first | (cases h; done) | skip
    rename_i x _ nm apos a cpos _
    obtain ⟨h, h5⟩ := and3 h
    obtain ⟨h, h4⟩ := and3 h
    obtain ⟨h, h3⟩ := and3 h
    obtain ⟨h1, h2⟩ := and3 h
    have en := eq_of_beq h1
    subst en
    obtain ⟨s1, s2, s3, s4⟩ := Gx.slot_ok k.toCok h2
    have hs := notStar h3
    exact dt_app s1 s2 s3 s4 ((chk_ok e k.toCok h5).1 rfl) (by rw [starEach_one hs]; rfl) h4 (starEach_one hs)
  | .put i kk e, st, k, h => by
    unfold chkS at h
    split at h <;> first | (cases h; done) | skip
    rename_i x _ y spos v pos
    obtain ⟨h, h4⟩ := and3 h
    obtain ⟨h, h3⟩ := and3 h
    obtain ⟨h1, h2⟩ := and3 h
    obtain ⟨s1, s2, s3, s4⟩ := Gx.slot_ok k.toCok h1
    exact dt_put s1 s2 s3 s4 ((chk_ok e k.toCok h4).1 rfl) ((chk_ok kk k.toCok h3).2.1 rfl) (assign_sub (notStar h2)) (sole_no2 rfl) (stores_no (.inl rfl))
  | .expr e, st, k, h => by
    unfold chkS at h
    split at h <;> first | (cases h; done) | skip
    obtain ⟨h1, h2⟩ := and3 h
    exact dt_expr ((chk_ok e k.toCok h2).1 rfl) (swaps_no (notStar h1))
  | .ret e, st, k, h => by
    unfold chkS at h
    split at h <;> first | (cases h; done) | skip
    exact dt_ret ((chk_ok e k.toCok h).1 rfl)
  | .retN, st, k, h => by
    unfold chkS at h
    split at h <;> first | (cases h; done) | skip
    exact dt_retN
  | .retLoc es, st, k, h => by
    unfold chkS at h
    split at h <;> first | (cases h; done) | skip
    exact dt_retLoc ((chks_ok es k.toCok h).1 rfl)
  | .ite c a b, st, k, h => by
    unfold chkS at h
    split at h <;> first | (cases h; done) | skip
    obtain ⟨h, h3⟩ := and3 h
    obtain ⟨h1, h2⟩ := and3 h
    exact dt_if ((chk_ok c k.toCok h1).2.2 rfl).1 (chkSs_ok a k h2) (chkSs_ok b k h3)
  | .loop t kk it b, st, k, h => by
    unfold chkS at h
    split at h <;> first | (cases h; done) | skip
    obtain ⟨h, h4⟩ := and3 h
    obtain ⟨h, h3⟩ := and3 h
    obtain ⟨h1, h2⟩ := and3 h
    exact dt_for k.pass k.calm (chkI_ok it k.toCok h2) (chkT_ok t (W := W) k.toCok h3) (chkSs_ok b k h4) (folded_no (notStar h1))
  | .whil c b, st, k, h => by
    unfold chkS at h
    split at h <;> first | (cases h; done) | skip
    obtain ⟨h1, h2⟩ := and3 h
    exact dt_while k.pass ((chk_ok c k.toCok h1).2.2 rfl).1 (chkSs_ok b k h2)
  | .brk, st, k, h => by
    unfold chkS at h
    split at h <;> first | (cases h; done) | skip
    exact dt_brk
  | .cont, st, k, h => by
    unfold chkS at h
    split at h <;> first | (cases h; done) | skip
    exact dt_cont
  | .pass, st, k, h => by
    unfold chkS at h
    split at h <;> first | (cases h; done) | skip
    · exact dt_pass
    · exact dt_doc
theorem chkSs_ok : ∀ (s : Ss) {sts : List Stmt}, CokS X cl G W C → chkSs s G sts = true → PSs C sts (tS X W R0 H0 (evSs cl w s))
  | .nil, sts, k, h => by
    unfold chkSs at h
    cases sts with
    | nil => exact dt_nil
    | cons _ _ => cases h
  | .cons s r, sts, k, h => by
    unfold chkSs at h
    split at h
    · exact (chkSs_ok r k h).weak fun De σ H q => fr_read q
    · split at h <;> first | (cases h; done) | skip
      obtain ⟨h1, h2⟩ := and3 h
      exact dt_cons (chkS_ok s k h1) (chkSs_ok r k h2)
end
end
end Bc

set_option linter.all false
set_option autoImplicit false
set_option maxRecDepth 100000
set_option maxHeartbeats 2000000
namespace Bc
open PySem PySem.Spec L2

/-! ### binding -/
theorem fm_congr {α β : Type} {f g : α → Option β} : ∀ {l : List α}, (∀ x ∈ l, f x = g x) → l.filterMap f = l.filterMap g
  | [], _ => rfl
  | a :: l, h => by
    rw [List.filterMap_cons, List.filterMap_cons, h a (List.mem_cons_self ..), fm_congr fun x hx => h x (List.mem_cons_of_mem _ hx)]
theorem zip_lookup {ps : List Str} {us : List Value} (nd : ps.Nodup) (hl : us.length = ps.length) : ps.filterMap (fun n => ((ps.zip us).lookup n).map (n, ·)) = ps.zip us := by
  induction ps generalizing us with
  | nil => cases us <;> rfl
  | cons p ps ih =>
    cases us with
    | nil => cases hl
    | cons u us =>
      have nd2 := List.nodup_cons.mp nd
      have h1 : ps.filterMap (fun n => (((p :: ps).zip (u :: us)).lookup n).map (n, ·)) = ps.filterMap (fun n => ((ps.zip us).lookup n).map (n, ·)) := by
        refine fm_congr fun n hn => ?_
        have : (n == p) = false := by
          rw [beq_eq_false_iff_ne]
          exact fun e => nd2.1 (e ▸ hn)
        rw [List.zip_cons_cons, List.lookup_cons, this]
      rw [List.filterMap_cons, List.zip_cons_cons] at *
      rw [h1, ih nd2.2 (by simpa using hl)]
      simp
theorem zip_some {ps : List Str} {us : List Value} (hl : us.length = ps.length) : ∀ n ∈ ps, ((ps.zip us).lookup n).isSome = true := by
  induction ps generalizing us with
  | nil => intro n hn; cases hn
  | cons p ps ih =>
    cases us with
    | nil => cases hl
    | cons u us =>
      intro n hn
      rw [List.zip_cons_cons, List.lookup_cons]
      cases e : n == p with
      | true => rfl
      | false =>
        rcases List.mem_cons.mp hn with rfl | hn
        · simp at e
        · exact ih (by simpa using hl) n hn
theorem bind_pos {x qual : Str} {params : Arguments} {body : List Stmt} {scope : Scope} {kV doc pm cdv ct : Value} {an : Option Addr} {ps : List Str} (h1 : params.posonlyargs = []) (h2 : params.args.map (·.arg) = ps) (h3 : params.vararg = none) (h4 : params.kwonlyargs = []) (h5 : params.kwarg = none) (nd : ps.Nodup)
    (us : List Value) (hl : us.length = ps.length) : bindArgs (PySem.W.fnOf x qual params body scope .none kV doc pm an cdv ct) ⟨us, []⟩ = pure (ps.zip us) := by
  have hm : (ps.filter fun n => ((ps.zip us).lookup n).isNone) = [] := by
    rw [List.filter_eq_nil_iff]
    intro n hn
    have := zip_some hl n hn
    cases e : (ps.zip us).lookup n with
    | none => rw [e] at this; cases this
    | some _ => simp
  unfold bindArgs PySem.W.fnOf
  simp only [h1, h2, h3, h4, h5, List.map_nil, List.nil_append, List.append_nil, seqItems?, hl]
  simp [hm, zip_lookup nd hl]
  rfl

/-! ### defs -/
/-- a def of the text: its name, its statement, its slots' names (the parameters first), what the evaluator runs -/
structure Fr where
  x : Str
  st : Stmt
  N : List Str
  np : Nat
  body : Ss
def pgOf (frs : List Fr) (tab : Str → List (Str × D)) : Pg := ⟨fun f => frs[f]?.map fun r => ⟨r.np, r.N.length, r.body⟩, fun _ => none, tab⟩
def nodupB : List Str → Bool
  | [] => true
  | x :: r => !r.contains x && nodupB r
theorem nodupB_ok : ∀ {l : List Str}, nodupB l = true → l.Nodup
  | [], _ => .nil
  | x :: r, h => by
    unfold nodupB at h
    obtain ⟨h1, h2⟩ := and3 h
    exact List.nodup_cons.mpr ⟨by simpa using h1, nodupB_ok h2⟩
def scopeOk (N P : List Str) (sc : Scope) : Bool :=
  (match sc.kind with | .function => true | _ => false) && !sc.isCoroutine && !sc.isGenerator && nodupB N && P.all (fun x => match sc.names.lookup x with | some .local => true | some .cell => true | _ => false) && sc.names.all fun y => match y.2 with | .free => false | _ => true
theorem scopeOk_ok {N : List Str} {n : Nat} {sc : Scope} (h : scopeOk N (N.take n) sc = true) : FnScope N (N.take n) sc := by
  unfold scopeOk at h
  obtain ⟨h, h6⟩ := and3 h
  obtain ⟨h, h5⟩ := and3 h
  obtain ⟨h, h4⟩ := and3 h
  obtain ⟨h, h3⟩ := and3 h
  obtain ⟨h1, h2⟩ := and3 h
  refine ⟨?_, by simpa using h2, by simpa using h3, nodupB_ok h4, ?_, fun x hx => ?_, fun y hy e => ?_⟩
  · split at h1
    · assumption
    · cases h1
  · rw [List.length_take, List.take_eq_take_iff]; omega
  · have := List.all_eq_true.mp h5 x hx
    split at this
    · rename_i e; exact .inl e
    · rename_i e; exact .inr e
    · cases this
  · have := List.all_eq_true.mp h6 y hy
    rw [e] at this; cases this
def argsOk (a : Arguments) (ps : List Str) : Bool := a.posonlyargs.isEmpty && (a.args.map (·.arg) == ps) && a.vararg.isNone && a.kwonlyargs.isEmpty && a.kwarg.isNone
def frOk (m : Ms) (r : Fr) : Bool := scopeOk r.N (r.N.take r.np) (defScope r.st) && decide (r.np ≤ r.N.length) && argsOk (defArgs r.st) (r.N.take r.np) && chkSs r.body ⟨m, r.N, defScope r.st, defScope r.st⟩ (defBody r.st)
def fnsOf (frs : List Fr) : List (Str × Nat) := frs.zipIdx.map fun p => (p.1.x, p.2)

/-- what stands behind the top -/
structure Top (X : Sx) (m : Ms) (frs : List Fr) (tab : Str → List (Str × D)) (P : Program) (w : World) (K : PySem.W.Frag) (mg : Str → Option Value) : Prop where
  hK : X.K = K
  fns : m.fns = fnsOf frs
  ok : ∀ r ∈ frs, frOk m r = true
  at_ : ∀ (i : Nat) (r : Fr), frs[i]? = some r → ∃ (addr : Addr) (fd : FuncData), FunD K r.x r.x (defArgs r.st) (defBody r.st) (defScope r.st) [] [] addr fd ∧ mg r.x = some (.ref addr)
  bis : ∀ x, x ∈ m.bis → mg x = none
  cons : ∀ x d, m.cons.lookup x = some d → ∃ (v : V) (u : Value), mg x = some u ∧ RelV v u ∧ ∀ R, Rep X R v d
  dcs : ∀ x, x ∈ m.dcs → ∃ p, mg x = some (.ref p) ∧ KTab X K w p (tab x)
theorem lookup_fns {frs : List Fr} {x : Str} {f : Nat} (h : (fnsOf frs).lookup x = some f) : ∃ r, frs[f]? = some r ∧ r.x = x := by
  have hm : (x, f) ∈ fnsOf frs := PySem.mem_of_lookup h
  unfold fnsOf at hm
  obtain ⟨⟨r, i⟩, hp, e⟩ := List.mem_map.mp hm
  have hp2 := List.mem_zipIdx_iff_getElem?.mp hp
  cases e
  exact ⟨r, hp2, rfl⟩
section
variable {X : Sx} {m : Ms} {frs : List Fr} {tab : Str → List (Str × D)} {P : Program} {w : World} {K : PySem.W.Frag} {mg : Str → Option Value} {base : Heap}
theorem entry {R : Rl} {H : Hp} {sto : Sto} {N : List Str} {np : Nat} {vs : List V} {ds : List D} (S : StOk X R H sto) (r : Reps X R vs ds) (hl : ds.length = np) (hn : np ≤ N.length) : At X R H R H sto (start N vs) (ds.map .val ++ List.replicate (N.length - np) .un) := by
  have hv := r.length
  have no : ∀ (i : Nat) (s : Slot), (ds.map Slot.val ++ List.replicate (N.length - np) Slot.un)[i]? = some s → isOwn s = false := fun i s e => by
    have hm := List.mem_of_getElem? e
    rcases List.mem_append.mp hm with hm | hm
    · obtain ⟨d, _, rfl⟩ := List.mem_map.mp hm; rfl
    · rw [List.eq_of_mem_replicate hm]; rfl
  refine ⟨Grow.refl _ _, S, ⟨?_, fun i s e => ?_, fun i j si sj a e1 e2 o1 o2 => ?_⟩, fun i s a e1 e2 => ?_⟩
  · unfold L2.start
    simp only [List.length_append, List.length_map, List.length_replicate]
    omega
  · by_cases hi : i < ds.length
    · rw [List.getElem?_append_left (by simpa using hi), List.getElem?_map] at e
      have hd : ds[i]? = some ds[i] := by simp [hi]
      rw [hd] at e
      cases e
      obtain ⟨v, e1, r1⟩ := r.get hd
      refine ⟨v, ?_, r1⟩
      unfold L2.start
      rw [List.getElem?_append_left (by simp; omega), List.getElem?_map, e1]; rfl
    · rw [List.getElem?_append_right (by simp; omega)] at e
      have hm := List.mem_of_getElem? e
      rw [List.eq_of_mem_replicate hm]
      trivial
  · rw [no i si e1] at o1; cases o1
  · rw [no i s e1] at e2; cases e2
theorem fn_ok (T : Top X m frs tab P w K mg) (wf : Nat) : ∀ (k f : Nat) (r : Fr) (addr : Addr) (fd : FuncData), frs[f]? = some r → FunD K r.x r.x (defArgs r.st) (defBody r.st) (defScope r.st) [] [] addr fd →
    FnOk P w K mg base (L2.CX P w) k addr fd (r.N.take r.np) (spF X (callF (pgOf frs tab) wf k f))
  | 0, f, r, addr, fd, hf, F => by
    have no : ∀ vs H Q E, ¬ spF X (callF (pgOf frs tab) wf 0 f) vs H Q E := fun vs H Q E ⟨R, sto, ds, S, rp, o⟩ => by unfold callF at o; exact o.elim
    exact ⟨fun vs H Q E h => (no _ _ _ _ h).elim, fun A outer s H args us vs Q E _ _ _ _ h => (no _ _ _ _ h).elim⟩
  | k + 1, f, r, addr, fd, hf, F => by
    have hr := T.ok r (List.mem_of_getElem? hf)
    unfold frOk at hr
    obtain ⟨hr, h4⟩ := and3 hr
    obtain ⟨hr, h3⟩ := and3 hr
    obtain ⟨h1, h2⟩ := and3 hr
    have SC := scopeOk_ok h1
    have hn : r.np ≤ r.N.length := of_decide_eq_true h2
    have hp : (pgOf frs tab).fd f = some ⟨r.np, r.N.length, r.body⟩ := by show frs[f]?.map _ = _; rw [hf]; rfl
    have un : ∀ (ds : List D) (sto : Sto) (W' : Nat → List (Nat × D) → Sto → Prop) (kk : D → Sto → Prop), Out W' (callF (pgOf frs tab) wf (k + 1) f ds sto) kk →
        ds.length = r.np ∧ Out W' (((evSs ⟨callF (pgOf frs tab) wf k, (pgOf frs tab).init, tab⟩ wf r.body (ds.map .val ++ List.replicate (r.N.length - r.np) .un)).bind retOf) sto) kk := fun ds sto W' kk o => by
      unfold callF at o
      rw [hp] at o
      dsimp only at o
      split at o
      · rename_i h; exact ⟨h.1, o⟩
      · exact o.elim
    refine F.ok SC (fun vs H Q E ⟨R, sto, ds, S, rp, o⟩ => ?_) fun cdv A outer s H vs Q E hroom ⟨R, sto, ds, S, rp, o⟩ => ?_
    · rw [rp.length, (un ds sto _ _ o).1, List.length_take]; omega
    · obtain ⟨hl, o⟩ := un ds sto _ _ o
      let C := cxOf (L2.CX P w) P w K mg base r.N r.x (defScope r.st) addr cdv A outer s H E
      have ck : CokS X ⟨callF (pgOf frs tab) wf k, (pgOf frs tab).init, tab⟩ ⟨m, r.N, defScope r.st, defScope r.st⟩ (wX X fun cls d _ H => E cls d H) C := {
        hK := T.hK
        hN := rfl
        nd := SC.nd
        sc := rfl
        calm := rfl
        fn := fun _ _ => rfl
        un := by have := hroom.un; show (A.deeper _).units + 65 < cLine; omega
        wx := ⟨_, takes_of rfl rfl rfl rfl, fun _ _ _ _ _ _ z => z⟩
        fns := fun x f' hx => by
          have hx : m.fns.lookup x = some f' := hx
          rw [T.fns] at hx
          obtain ⟨r', hf', ex⟩ := lookup_fns hx
          obtain ⟨a', fd', F', hm'⟩ := T.at_ f' r' hf'
          have hr' := T.ok r' (List.mem_of_getElem? hf')
          unfold frOk at hr'
          obtain ⟨hr', _⟩ := and3 hr'
          obtain ⟨hr', h3'⟩ := and3 hr'
          obtain ⟨h1', _⟩ := and3 hr'
          unfold argsOk at h3'
          simp only [Bool.and_eq_true, beq_iff_eq, List.isEmpty_iff, Option.isNone_iff_eq_none] at h3'
          obtain ⟨⟨⟨⟨a1, a2⟩, a3⟩, a4⟩, a5⟩ := h3'
          have nd' : (r'.N.take r'.np).Nodup := (List.take_sublist _ _).nodup (scopeOk_ok h1').nd
          refine ⟨a', fd', r'.N.take r'.np, k, by rw [← ex]; exact hm', F'.kp, F'.bindsN fun kV doc pm an cdv ct us hl => bind_pos a1 a2 a3 a4 a5 nd' us hl, hroom, fn_ok T wf k f' r' a' fd' hf' F'⟩
        bis := T.bis
        cons := T.cons
        dcs := T.dcs
        pass := passes_of rfl
        one := rfl }
      refine ⟨tS X (wX X fun cls d _ H => E cls d H) R H (evSs ⟨callF (pgOf frs tab) wf k, (pgOf frs tab).init, tab⟩ wf r.body), chkSs_ok r.body ck h4, R, _, sto, entry S rp hl hn, (Out.bind o).imp (fun p s' o' => ?_) fun c fs s' z σ H' R' g' le S' cls d ex => z H' R' g' S' cls d ex⟩
      obtain ⟨fl, env'⟩ := p
      cases fl with
      | nx => exact fun σ H' R' A' le => (show ∀ v H' R', Grow R H R' H' → StOk X R' H' s' → Rep X R' v .non → Q v H' from o') .non H' R' A'.g A'.S .non
      | rt d => exact fun v H' R' g' le S' r' => (show ∀ v H' R', Grow R H R' H' → StOk X R' H' s' → Rep X R' v d → Q v H' from o') v H' R' g' S' r'
      | bk => exact o'.elim
      | ct => exact o'.elim
/-! ### the law -/
def spLaw (K : PySem.W.Frag) (n : Nat) : Sp := fun vs H Q _ => ∃ (a : Addr) (ns : List Int), vs = [.ref a] ∧ ns.length ≤ n ∧ SqL K H a (ns.map V.int) ∧ ∀ H', Q (.bl true) H'
theorem law_ok (T : Top X m frs tab P w K mg) {k f : Nat} {r : Fr} {addr : Addr} {fd : FuncData} {x : Str} {n : Nat} (hf : frs[f]? = some r) (F : FunD K r.x r.x (defArgs r.st) (defBody r.st) (defScope r.st) [] [] addr fd) (hx : r.N.take r.np = [x])
    (law : ∀ ns : List Int, ns.length ≤ n → ∃ wf s, callF (pgOf frs tab) wf k f [.ro (ns.map .int)] [] = .ok (.bl true, s)) : FnOk P w K mg base CX0 k addr fd [x] (spLaw K n) := by
  refine ⟨fun vs H Q E ⟨a, ns, e, _⟩ => by rw [e]; rfl, fun A outer s H args us vs Q E hr e0 hb hv hsp => ?_⟩
  obtain ⟨a, ns, rfl, hn, hS, hQ⟩ := hsp
  obtain ⟨wf, sf, e⟩ := law ns hn
  have FF := fn_ok (base := base) T wf k f r addr fd hf F
  rw [hx] at FF
  refine codeAny_mono (FF.run A outer s H args us [.ref a] Q (fun _ _ _ => False) hr e0 hb hv ⟨⟨H, fun _ => none, []⟩, [], [.ro (ns.map .int)], ⟨fun _ _ z => z, fun a o z => (by cases (show (none : Option HO) = some o from z)), rfl, .nil, fun n a ds z => by cases (show (none : Option Addr) = some a from (by simpa using z))⟩, .cons (.ro (by rw [T.hK]; exact hS) (Reps.of_ints ns)) .nil, ?_⟩) fun r' s' hq => ?_
  · rw [e]
    exact fun v H' R' g S r => by cases r; exact hQ H'
  · cases r' with
    | ok fl => cases fl <;> exact hq
    | error er =>
      obtain ⟨_, _, _, _, _, _, _, _, _, _, _, _, z⟩ := hq
      exact z
end
end Bc

set_option linter.all false
set_option autoImplicit false
set_option maxRecDepth 100000
set_option maxHeartbeats 2000000
namespace Bc
open PySem PySem.Spec L2

/-! ### what the head tells -/
def fnL (frs : List Fr) : List He.DefD := frs.map fun r => ⟨(r.x, none), r.x, r.x, defArgs r.st, defBody r.st, defScope r.st, [], []⟩
def faC (p : Str × D) : He.Fa := match p.2 with
  | .int i => .int p.1 i
  | .str z => .str p.1 z
  | _ => .free p.1
def faL (m : Ms) (frs : List Fr) : List He.Fa := frs.map (fun r => .glo r.x) ++ (m.bis.map (fun x => .free x) ++ (m.cons.map faC ++ m.dcs.map (fun x => .glo x)))
def tsL (m : Ms) (tab : Str → List (Str × D)) : List He.Tab := m.dcs.map fun x => ((fun K => He.ga K x), (tab x).map (·.1))
def relU : Value → D → Bool
  | .int i _, .int j => i == j
  | .str i _, .str j => i == j
  | .bool i, .bl j => i == j
  | .none, .non => true
  | _, _ => false
theorem relU_ok {X : Sx} {u : Value} {d : D} (h : relU u d = true) : ∃ v, RelV v u ∧ ∀ R, Rep X R v d := by
  unfold relU at h
  split at h <;> first | (cases h; done) | skip
  · have e := eq_of_beq h
    subst e
    exact ⟨.int _, ⟨_, rfl⟩, fun _ => .int _⟩
  · have e := eq_of_beq h
    subst e
    exact ⟨.str _, ⟨_, rfl⟩, fun _ => .str _⟩
  · have e := eq_of_beq h
    subst e
    exact ⟨.bl _, rfl, fun _ => .bl _⟩
  · exact ⟨.non, rfl, fun _ => .non⟩
def entsB : List DictEntry → List (Str × D) → Bool
  | [], [] => true
  | e :: es, (k, d) :: r => (match e.key with
    | .str x _ => x == k
    | _ => false) && relU e.val d && entsB es r
  | _, _ => false
def dctB (K : PySem.W.Frag) (a : Addr) (tb : List (Str × D)) : Bool := match K.lookup a with
  | some ⟨_, _, .dict es _, _⟩ => entsB es.toList tb
  | _ => false
def exL (m : Ms) (tab : Str → List (Str × D)) (K : PySem.W.Frag) : Bool := m.dcs.all fun x => dctB K (He.ga K x) (tab x)
theorem ents_find {X : Sx} (z : Str) : ∀ {es : List DictEntry} {tb : List (Str × D)}, entsB es tb = true →
    es.any (·.refKey) = false ∧ ((tb.lookup z = none ∧ es.find? (·.key.isStr z) = none) ∨ ∃ d v e, tb.lookup z = some d ∧ es.find? (·.key.isStr z) = some e ∧ RelV v e.val ∧ ∀ R, Rep X R v d)
  | [], [], _ => ⟨rfl, .inl ⟨rfl, rfl⟩⟩
  | [], _ :: _, h => by cases h
  | _ :: _, [], h => by cases h
  | e :: es, (k, d) :: r, h => by
    unfold entsB at h
    obtain ⟨h12, h3⟩ := and3 h
    obtain ⟨h1, h2⟩ := and3 h12
    obtain ⟨i1, i2⟩ := ents_find (X := X) z h3
    clear h h12
    obtain ⟨hs, key, val⟩ := e
    cases key <;> first | (cases h1; done) | skip
    rename_i x t
    have ex : x = k := eq_of_beq h1
    subst ex
    refine ⟨?_, ?_⟩
    · rw [List.any_cons, i1]; rfl
    · by_cases hz : z = x
      · subst hz
        obtain ⟨v, r1, r2⟩ := relU_ok (X := X) h2
        refine .inr ⟨d, v, ⟨hs, .str z t, val⟩, by simp, ?_, r1, r2⟩
        rw [List.find?_cons]
        have : (Value.str z t).isStr z = true := by show (z == z) = true; simp
        rw [this]
      · have hz2 : (z == x) = false := by simpa using hz
        have hf : (Value.str x t).isStr z = false := by
          show (x == z) = false
          simpa using fun h : x = z => hz h.symm
        rcases i2 with ⟨a, b⟩ | ⟨d', v, e', a, b, c1, c2⟩
        · refine .inl ⟨by rw [List.lookup_cons, hz2]; exact a, ?_⟩
          rw [List.find?_cons, hf]; exact b
        · refine .inr ⟨d', v, e', by rw [List.lookup_cons, hz2]; exact a, ?_, c1, c2⟩
          rw [List.find?_cons, hf]; exact b
section
variable {X : Sx} {m : Ms} {frs : List Fr} {tab : Str → List (Str × D)} {P : Program} {w : World} {K : PySem.W.Frag} {mg : Str → Option Value} {h : Heap}
theorem ktab_of {p : Addr} {tb : List (Str × D)} {es : Array DictEntry} {n : Nat} (kd : KDict K w p es n) (e : dctB K p tb = true) : KTab X K w p tb := by
  obtain ⟨hl, hk, low⟩ := kd
  unfold dctB at e
  rw [hl] at e
  refine ⟨⟨es, n, hl, hk⟩, low, fun z => ?_⟩
  obtain ⟨i1, i2⟩ := ents_find (X := X) z e
  unfold PySem.W.nsIn
  rw [hl]
  rcases i2 with ⟨a, b⟩ | ⟨d, v, e', a, b, c1, c2⟩
  · refine .inl ⟨a, ?_⟩
    show (match es.toList.find? (·.key.isStr z) with
      | some e => some (some e.val)
      | none => if es.toList.any (·.refKey) then none else some none) = some none
    rw [b, i1]; rfl
  · refine .inr ⟨d, v, e'.val, a, ?_, c1, c2⟩
    show (match es.toList.find? (·.key.isStr z) with
      | some e => some (some e.val)
      | none => if es.toList.any (·.refKey) then none else some none) = _
    rw [b]
def conOk (m : Ms) : Bool := m.cons.all fun p => match p.2 with
  | .int _ => true
  | .str _ => true
  | _ => false
theorem top_of {tf : List He.Defn} (hX : X.K = K) (KX : K.In h) (G : h.Ns mainGlobals mg) (c : He.SaysX (faL m frs) (fnL frs) (tsL m tab) tf (exL m tab) w h K) (hm : m.fns = fnsOf frs) (hc : conOk m = true) (ok : frs.all (frOk m) = true) : Top X m frs tab P w K mg where
  hK := hX
  fns := hm
  ok := fun r hr => List.all_eq_true.mp ok r hr
  at_ := fun i r hr => by
    have hr := List.mem_of_getElem? hr
    obtain ⟨fd, F⟩ := c.t.d.defs (d := ⟨(r.x, none), r.x, r.x, defArgs r.st, defBody r.st, defScope r.st, [], []⟩) (List.mem_map.mpr ⟨r, hr, rfl⟩)
    exact ⟨_, fd, F, He.glo_ok KX G (c.t.d.facts (f := .glo r.x) (List.mem_append_left _ (List.mem_map.mpr ⟨r, hr, rfl⟩)))⟩
  bis := fun x hx => He.free_ok KX G (c.t.d.facts (f := .free x) (List.mem_append_right _ (List.mem_append_left _ (List.mem_map.mpr ⟨x, hx, rfl⟩))))
  cons := fun x d hd => by
    have hm := PySem.mem_of_lookup hd
    have hk := List.all_eq_true.mp hc _ hm
    have hf := c.t.d.facts (f := faC (x, d)) (List.mem_append_right _ (List.mem_append_right _ (List.mem_append_left _ (List.mem_map.mpr ⟨_, hm, rfl⟩))))
    cases d <;> first | (cases hk; done) | skip
    · obtain ⟨t, e⟩ := He.int_ok KX G hf
      exact ⟨.int _, _, e, ⟨t, rfl⟩, fun _ => .int _⟩
    · obtain ⟨t, e⟩ := He.str_ok KX G hf
      exact ⟨.str _, _, e, ⟨t, rfl⟩, fun _ => .str _⟩
  dcs := fun x hx => by
    have hg := He.glo_ok KX G (c.t.d.facts (f := .glo x) (List.mem_append_right _ (List.mem_append_right _ (List.mem_append_right _ (List.mem_map.mpr ⟨x, hx, rfl⟩)))))
    have hb := List.all_eq_true.mp c.more x hx
    obtain ⟨i, hi, e⟩ := List.mem_iff_getElem.mp hx
    obtain ⟨es, n, kd⟩ := c.t.tab i (t := ((fun K => He.ga K x), (tab x).map (·.1))) (by
      show (m.dcs.map _)[i]? = _
      rw [List.getElem?_map, List.getElem?_eq_getElem hi, e]; rfl)
    exact ⟨_, hg, ktab_of kd hb⟩
end
end Bc

set_option linter.all false
set_option autoImplicit false
set_option maxRecDepth 100000
set_option maxHeartbeats 1000000
namespace Bc
open PySem PySem.Spec L2

/-! ### the evaluator's monad, for plain reasoning -/
section
variable {α β γ : Type}
@[simp] theorem pure_eq (a : α) : (pure a : M α) = M.pure a := (rfl)
theorem bind_eq (m : M α) (f : α → M β) : (m >>= f) = m.bind f := rfl
@[simp] theorem pure_bind' (a : α) (f : α → M β) : (M.pure a).bind f = f a := by funext s; rfl
@[simp] theorem bind_assoc' (m : M α) (f : α → M β) (g : β → M γ) : (m.bind f).bind g = m.bind fun a => (f a).bind g := by
  funext s
  unfold M.bind
  cases m s <;> rfl
@[simp] theorem bind_pure' (m : M α) : (m.bind fun a => M.pure a) = m := by
  funext s
  unfold M.bind M.pure
  cases m s <;> rfl
@[simp] theorem ofOpt_some' (a : α) : ofOpt (some a) = M.pure a := (rfl)
@[simp] theorem need_true' : need true = M.pure () := by funext s; rfl
theorem need_of {b : Bool} (h : b = true) : need b = M.pure () := by subst h; exact need_true'
@[simp] theorem noX_pure (a : α) : noX (M.pure a) = M.pure a := (rfl)
@[simp] theorem truM_bl (b : Bool) : truM (.bl b) = M.pure b := (rfl)
@[simp] theorem truM_int (i : Int) : truM (.int i) = M.pure (i != 0) := (rfl)
@[simp] theorem truM_non : truM .non = M.pure false := (rfl)
@[simp] theorem truM_tup (xs : List D) : truM (.tup xs) = M.pure (!xs.isEmpty) := (rfl)
@[simp] theorem truM_lst (b : Bool) (xs : List D) : truM (.lst b xs) = M.pure (!xs.isEmpty) := (rfl)
theorem ite_pure (b : Bool) (x y : α) : (if b then (M.pure x : M α) else M.pure y) = M.pure (if b then x else y) := by cases b <;> rfl
end
/-- a comprehension without tests, its items' values known -/
theorem mapO_all {f : D → M (Option D)} {g : D → D} : ∀ {xs : List D}, (∀ x ∈ xs, f x = M.pure (some (g x))) → mapO f xs = M.pure (xs.map g)
  | [], _ => rfl
  | x :: xs, h => by
    unfold mapO
    rw [h x (List.mem_cons_self ..), mapO_all fun y hy => h y (List.mem_cons_of_mem _ hy)]
    rfl
theorem mapO_some {f : D → M (Option D)} {p : D → Bool} {g : D → D} : ∀ {xs : List D}, (∀ x ∈ xs, f x = M.pure (if p x then some (g x) else none)) → mapO f xs = M.pure ((xs.filter p).map g)
  | [], _ => rfl
  | x :: xs, h => by
    unfold mapO
    rw [h x (List.mem_cons_self ..), mapO_some fun y hy => h y (List.mem_cons_of_mem _ hy)]
    cases hp : p x with
    | true => simp [pure_bind', hp, List.filter_cons, pure_eq]
    | false => simp [pure_bind', hp, List.filter_cons, pure_eq]
theorem asBls_map {α : Type} (p : α → Bool) : ∀ xs : List α, asBls (xs.map fun x => D.bl (p x)) = some (xs.map p)
  | [] => rfl
  | x :: xs => by
    rw [List.map_cons, List.map_cons]
    unfold asBls
    rw [asBls_map p xs]; rfl
theorem asInts_map {α : Type} (p : α → Int) : ∀ xs : List α, asInts (xs.map fun x => D.int (p x)) = some (xs.map p)
  | [] => rfl
  | x :: xs => by
    rw [List.map_cons, List.map_cons]
    unfold asInts
    rw [asInts_map p xs]; rfl
theorem asStrs_map {α : Type} (p : α → Str) : ∀ xs : List α, asStrs (xs.map fun x => D.str (p x)) = some (xs.map p)
  | [] => rfl
  | x :: xs => by
    rw [List.map_cons, List.map_cons]
    unfold asStrs
    rw [asStrs_map p xs]; rfl
theorem all_id {α : Type} (p : α → Bool) (xs : List α) : (xs.map p).all id = xs.all p := by rw [List.all_map]; rfl
theorem any_id {α : Type} (p : α → Bool) (xs : List α) : (xs.map p).any id = xs.any p := by rw [List.any_map]; rfl
theorem bAll_map {α : Type} (p : α → Bool) (xs : List α) (b : Bool) : bAll [.lst b (xs.map fun x => D.bl (p x))] = M.pure (.bl (xs.all p)) := by
  show (ofOpt (asBls _)).bind _ = _
  rw [asBls_map, ofOpt_some', pure_bind', all_id]; rfl
theorem bAny_map {α : Type} (p : α → Bool) (xs : List α) (b : Bool) : bAny [.lst b (xs.map fun x => D.bl (p x))] = M.pure (.bl (xs.any p)) := by
  show (ofOpt (asBls _)).bind _ = _
  rw [asBls_map, ofOpt_some', pure_bind', any_id]; rfl
/-! ### the evaluator's equations -/
def negD : D → M D
  | .int i => M.pure (.int (-i))
  | _ => stuck
def intO : D → M (Option Int)
  | .int i => M.pure (some i)
  | _ => stuck
def thenD (r : D) (m : M D) : M D := match r with
  | .bl true => m
  | .bl false => M.pure (.bl false)
  | _ => stuck
def kgetD (t : List (Str × D)) (x y : D) : M D := match x with
  | .str z => M.pure ((t.lookup z).getD y)
  | _ => stuck
def ownD (env : Env) (i : Nat) (x : D) : M (Fl × Env) := match x with
  | .lst true xs => if i < env.length then M.pure (.nx, env.set i (.own xs)) else stuck
  | _ => stuck
/-- behind a statement -/
def seqM (f : Env → M (Fl × Env)) : Fl × Env → M (Fl × Env)
  | (.nx, env) => f env
  | (.rt d, env) => M.pure (.rt d, env)
  | (.bk, env) => M.pure (.bk, env)
  | (.ct, env) => M.pure (.ct, env)

@[simp] theorem evE_var {c : Cl} {env : Env} {i : Nat} : evE c (.var i) env = (match env[i]? with | some (.val d) => M.pure d | _ => stuck) := by rw [evE] <;> rfl
@[simp] theorem evE_own {c : Cl} {env : Env} {i : Nat} : evE c (.own i) env = (match env[i]? with | some (.own xs) => M.pure (.lst false xs) | some (.ownK kvs) => M.pure (.dK false kvs) | some (.ownT kvs) => M.pure (.dT false kvs) | _ => stuck) := by rw [evE] <;> rfl
@[simp] theorem evE_int {c : Cl} {env : Env} {i : Int} : evE c (.int i) env = M.pure (.int i) := by rw [evE] <;> rfl
@[simp] theorem evE_bl {c : Cl} {env : Env} {b : Bool} : evE c (.bl b) env = M.pure (.bl b) := by rw [evE] <;> rfl
@[simp] theorem evE_non {c : Cl} {env : Env} : evE c (.non) env = M.pure .non := by rw [evE] <;> rfl
@[simp] theorem evE_str {c : Cl} {env : Env} {x : Str} : evE c (.str x) env = M.pure (.str x) := by rw [evE] <;> rfl
@[simp] theorem evE_glob {c : Cl} {env : Env} {d : D} : evE c (.glob d) env = M.pure d := by rw [evE] <;> rfl
@[simp] theorem evE_bin {c : Cl} {env : Env} {o : Operator} {a b : E} : evE c (.bin o a b) env = (evE c a env).bind fun x => (evE c b env).bind fun y => binD o x y := by rw [evE] <;> rfl
@[simp] theorem evE_neg {c : Cl} {env : Env} {a : E} : evE c (.neg a) env = (evE c a env).bind negD := by rw [evE] <;> rfl
@[simp] theorem evE_not {c : Cl} {env : Env} {a : E} : evE c (.not a) env = (evE c a env).bind fun x => (truM x).bind fun b => M.pure (.bl (!b)) := by rw [evE] <;> rfl
@[simp] theorem evE_cmp {c : Cl} {env : Env} {o : CmpOp} {a b : E} : evE c (.cmp o a b) env = (evE c a env).bind fun x => (evE c b env).bind fun y => cmpD o x y := by rw [evE] <;> rfl
@[simp] theorem evE_cmp2 {c : Cl} {env : Env} {o o' : CmpOp} {a b e : E} : evE c (Bc.E.cmp2 o o' a b e) env = (evE c a env).bind fun x => (evE c b env).bind fun y => (cmpD o x y).bind fun r => thenD r ((evE c e env).bind fun z => cmpD o' y z) := by rw [evE] <;> rfl
@[simp] theorem evE_and {c : Cl} {env : Env} {a b : E} : evE c (.and a b) env = (evE c a env).bind fun x => (truM x).bind fun k => if k then evE c b env else M.pure x := by rw [evE] <;> rfl
@[simp] theorem evE_or {c : Cl} {env : Env} {a b : E} : evE c (.or a b) env = (evE c a env).bind fun x => (truM x).bind fun k => if k then M.pure x else evE c b env := by rw [evE] <;> rfl
@[simp] theorem evE_ite {c : Cl} {env : Env} {t a b : E} : evE c (.ite t a b) env = (evE c t env).bind fun x => (truM x).bind fun k => if k then evE c a env else evE c b env := by rw [evE] <;> rfl
@[simp] theorem evE_tup {c : Cl} {env : Env} {es : Es} : evE c (.tup es) env = (evEs c es env).bind fun ds => (need (lenOk ds.length)).bind fun _ => M.pure (.tup ds) := by rw [evE] <;> rfl
@[simp] theorem evE_lst {c : Cl} {env : Env} {es : Es} : evE c (.lst es) env = (evEs c es env).bind fun ds => (need (lenOk ds.length)).bind fun _ => M.pure (.lst true ds) := by rw [evE] <;> rfl
@[simp] theorem evE_sub {c : Cl} {env : Env} {a i : E} : evE c (.sub a i) env = (evE c a env).bind fun x => (evE c i env).bind fun y => subD x y := by rw [evE] <;> rfl
@[simp] theorem evE_slice {c : Cl} {env : Env} {a : E} {lo hi : Op} : evE c (.slice a lo hi) env = (evE c a env).bind fun x => (evO c lo env).bind fun l => (evO c hi env).bind fun h => sliceD x l h := by rw [evE] <;> rfl
@[simp] theorem evE_call {c : Cl} {env : Env} {f : Nat} {es : Es} : evE c (.call f es) env = (evEs c es env).bind fun ds => c.call f ds := by rw [evE] <;> rfl
@[simp] theorem evE_isi {c : Cl} {env : Env} {a : E} {ts : List Ty} : evE c (.isi a ts) env = (evE c a env).bind fun x => (ofOpt (isiDs x ts)).bind fun b => M.pure (.bl b) := by rw [evE] <;> rfl
@[simp] theorem evE_bi {c : Cl} {env : Env} {b : Bf} {es : Es} : evE c (.bi b es) env = (evEs c es env).bind fun ds => bfD b ds := by rw [evE] <;> rfl
@[simp] theorem evE_bm {c : Cl} {env : Env} {b : Bm} {a : E} {es : Es} : evE c (.bm b a es) env = (evE c a env).bind fun x => (noX (evEs c es env)).bind fun ds => bmD b x ds := by rw [evE] <;> rfl
@[simp] theorem evE_kget {c : Cl} {env : Env} {t : Str} {a b : E} : evE c (.kget t a b) env = (evE c a env).bind fun x => (evE c b env).bind fun y => kgetD (c.tab t) x y := by rw [evE] <;> rfl
@[simp] theorem evE_lc {c : Cl} {env : Env} {t : T} {k : Itb} {it cs : Es} {e : E} {own : List Nat} : evE c (.lc t k it cs e own) env = (evEs c it env).bind fun ds => (itD k ds).bind fun items => (noX (mapO (fun d => (asgT c t d (wipe env own)).bind fun env1 => (evCs c cs env1).bind fun b => if b then (evE c e env1).bind fun y => M.pure (some y) else M.pure none) items)).bind fun ys => (need (lenOk ys.length)).bind fun _ => M.pure (.lst true ys) := by rw [evE] <;> rfl
@[simp] theorem evEs_nil {c : Cl} {env : Env} : evEs c (.nil) env = M.pure [] := by rw [evEs] <;> rfl
@[simp] theorem evEs_cons {c : Cl} {env : Env} {e : E} {r : Es} : evEs c (.cons e r) env = (evE c e env).bind fun x => (evEs c r env).bind fun xs => M.pure (x :: xs) := by rw [evEs] <;> rfl
@[simp] theorem evEs_star {c : Cl} {env : Env} {e : E} {r : Es} : evEs c (.star e r) env = (evE c e env).bind fun x => (ofOpt (asSeq x)).bind fun xs => (evEs c r env).bind fun ys => M.pure (xs ++ ys) := by rw [evEs] <;> rfl
@[simp] theorem evCs_nil {c : Cl} {env : Env} : evCs c (.nil) env = M.pure true := by rw [evCs] <;> rfl
@[simp] theorem evCs_cons {c : Cl} {env : Env} {e : E} {r : Es} : evCs c (.cons e r) env = (evE c e env).bind fun x => (truM x).bind fun b => if b then evCs c r env else M.pure false := by rw [evCs] <;> rfl
@[simp] theorem evO_no {c : Cl} {env : Env} : evO c (.no) env = M.pure none := by rw [evO] <;> rfl
@[simp] theorem evO_ex {c : Cl} {env : Env} {e : E} : evO c (.ex e) env = (evE c e env).bind intO := by rw [evO] <;> rfl
@[simp] theorem asgT_nm {c : Cl} {env : Env} {i : Nat} {d : D} : asgT c (.nm i) (d) env = (if i < env.length then M.pure (env.set i (.val d)) else stuck) := by rw [asgT] <;> rfl
@[simp] theorem asgT_tp {c : Cl} {env : Env} {ts : Ts} {xs : List D} : asgT c (.tp ts) (.tup xs) env = asgTs c ts xs env := by rw [asgT] <;> rfl
@[simp] theorem asgT_sub {c : Cl} {env : Env} {a k : E} {d : D} : asgT c (.sub a k) (d) env = (noX (evE c a env)).bind fun x => (noX (evE c k env)).bind fun y => (setSub x y d).bind fun _ => M.pure env := by rw [asgT] <;> rfl
@[simp] theorem asgTs_nil {c : Cl} {env : Env}  : asgTs c (.nil) ([]) env = M.pure env := by rw [asgTs] <;> rfl
@[simp] theorem asgTs_cons {c : Cl} {env : Env} {t : T} {r : Ts} {x : D} {xs : List D} : asgTs c (.cons t r) (x :: xs) env = (asgT c t x env).bind fun env1 => asgTs c r xs env1 := by rw [asgTs] <;> rfl
@[simp] theorem evS_asg {c : Cl} {w : Nat} {env : Env} {t : T} {e : E} : evS c w (.asg t e) env = (evE c e env).bind fun x => (asgT c t x env).bind fun env1 => M.pure (.nx, env1) := by rw [evS] <;> rfl
@[simp] theorem evS_asgOwn {c : Cl} {w : Nat} {env : Env} {i : Nat} {e : E} : evS c w (.asgOwn i e) env = (evE c e env).bind (ownD env i) := by rw [evS] <;> rfl
@[simp] theorem evS_freeze {c : Cl} {w : Nat} {env : Env} {i : Nat} : evS c w (.freeze i) env = (match env[i]? with | some (.own xs) => M.pure (.nx, env.set i (.val (.lst true xs))) | some (.ownK xs) => M.pure (.nx, env.set i (.val (.dK true xs))) | some (.ownT xs) => M.pure (.nx, env.set i (.val (.dT true xs))) | _ => stuck) := by rw [evS] <;> rfl
@[simp] theorem evS_app {c : Cl} {w : Nat} {env : Env} {i : Nat} {e : E} : evS c w (.app i e) env = (match env[i]? with | some (.own xs) => (evE c e env).bind fun x => (need (decide (xs.length < LINE))).bind fun _ => M.pure (.nx, env.set i (.own (xs ++ [x]))) | _ => stuck) := by rw [evS] <;> rfl
@[simp] theorem evS_expr {c : Cl} {w : Nat} {env : Env} {e : E} : evS c w (.expr e) env = (evE c e env).bind fun _ => M.pure (.nx, env) := by rw [evS] <;> rfl
@[simp] theorem evS_ret {c : Cl} {w : Nat} {env : Env} {e : E} : evS c w (.ret e) env = (evE c e env).bind fun x => M.pure (.rt x, env) := by rw [evS] <;> rfl
@[simp] theorem evS_retN {c : Cl} {w : Nat} {env : Env} : evS c w (.retN) env = M.pure (.rt .non, env) := by rw [evS] <;> rfl
@[simp] theorem evS_retLoc {c : Cl} {w : Nat} {env : Env} {es : Es} : evS c w (.retLoc es) env = (evEs c es env).bind fun ds => (need (lenOk ds.length)).bind fun _ => (newLoc ds).bind fun d => M.pure (.rt d, env) := by rw [evS] <;> rfl
@[simp] theorem evS_ite {c : Cl} {w : Nat} {env : Env} {t : E} {a b : Ss} : evS c w (.ite t a b) env = (evE c t env).bind fun x => (truM x).bind fun k => if k then evSs c w a env else evSs c w b env := by rw [evS] <;> rfl
@[simp] theorem evS_loop {c : Cl} {w : Nat} {env : Env} {t : T} {k : Itb} {it : Es} {b : Ss} : evS c w (.loop t k it b) env = (evEs c it env).bind fun ds => (itD k ds).bind fun items => forL (fun d env1 => (asgT c t d env1).bind fun env2 => evSs c w b env2) items env := by rw [evS] <;> rfl
@[simp] theorem evS_whil {c : Cl} {w : Nat} {env : Env} {t : E} {b : Ss} : evS c w (.whil t b) env = whileL (fun env1 => (evE c t env1).bind truM) (evSs c w b) w env := by rw [evS] <;> rfl
@[simp] theorem evS_brk {c : Cl} {w : Nat} {env : Env} : evS c w (.brk) env = M.pure (.bk, env) := by rw [evS] <;> rfl
@[simp] theorem evS_cont {c : Cl} {w : Nat} {env : Env} : evS c w (.cont) env = M.pure (.ct, env) := by rw [evS] <;> rfl
@[simp] theorem evS_pass {c : Cl} {w : Nat} {env : Env} : evS c w (.pass) env = M.pure (.nx, env) := by rw [evS] <;> rfl
@[simp] theorem evSs_nil {c : Cl} {w : Nat} {env : Env} : evSs c w (.nil) env = M.pure (.nx, env) := by rw [evSs] <;> rfl
@[simp] theorem evSs_cons {c : Cl} {w : Nat} {env : Env} {s : S} {r : Ss} : evSs c w (.cons s r) env = (evS c w s env).bind (seqM fun env1 => evSs c w r env1) := by rw [evSs] <;> rfl

@[simp] theorem seqM_nx {f : Env → M (Fl × Env)} {env : Env} : seqM f (.nx, env) = f env := (rfl)
@[simp] theorem seqM_rt {f : Env → M (Fl × Env)} {env : Env} {d : D} : seqM f (.rt d, env) = M.pure (.rt d, env) := (rfl)
@[simp] theorem seqM_bk {f : Env → M (Fl × Env)} {env : Env} : seqM f (.bk, env) = M.pure (.bk, env) := (rfl)
@[simp] theorem seqM_ct {f : Env → M (Fl × Env)} {env : Env} : seqM f (.ct, env) = M.pure (.ct, env) := (rfl)
@[simp] theorem retOf_rt {env : Env} {d : D} : retOf (.rt d, env) = M.pure d := (rfl)
@[simp] theorem retOf_nx {env : Env} : retOf (.nx, env) = M.pure .non := (rfl)
@[simp] theorem thenD_t {m : M D} : thenD (.bl true) m = m := (rfl)
@[simp] theorem thenD_f {m : M D} : thenD (.bl false) m = M.pure (.bl false) := (rfl)
@[simp] theorem thenD_b {b : Bool} {m : M D} : thenD (.bl b) m = if b then m else M.pure (.bl false) := by cases b <;> rfl
@[simp] theorem negD_int {i : Int} : negD (.int i) = M.pure (.int (-i)) := (rfl)
@[simp] theorem intO_int {i : Int} : intO (.int i) = M.pure (some i) := (rfl)
@[simp] theorem kgetD_str {t : List (Str × D)} {z : Str} {y : D} : kgetD t (.str z) y = M.pure ((t.lookup z).getD y) := (rfl)
@[simp] theorem ownD_lst {env : Env} {i : Nat} {xs : List D} : ownD env i (.lst true xs) = if i < env.length then M.pure (.nx, env.set i (.own xs)) else stuck := (rfl)
end Bc

set_option linter.all false
set_option autoImplicit false
set_option maxRecDepth 100000
set_option maxHeartbeats 1000000
namespace Bc
open PySem PySem.Spec L2

/-! ### operations, for plain reasoning -/
@[simp] theorem bfD_len : bfD .len = bLen := (rfl)
@[simp] theorem bfD_abs : bfD .abs = bAbs := (rfl)
@[simp] theorem bfD_min2 : bfD .min2 = bMin := (rfl)
@[simp] theorem bfD_max2 : bfD .max2 = bMax := (rfl)
@[simp] theorem bfD_int1 : bfD .int1 = bInt := (rfl)
@[simp] theorem bfD_bool1 : bfD .bool1 = bBool := (rfl)
@[simp] theorem bfD_sum : bfD .sum = bSum := (rfl)
@[simp] theorem bfD_any : bfD .any = bAny := (rfl)
@[simp] theorem bfD_all : bfD .all = bAll := (rfl)
@[simp] theorem bfD_tuple : bfD .tuple = bTuple := (rfl)
@[simp] theorem bfD_list : bfD .list = bList := (rfl)
@[simp] theorem bfD_sorted : bfD .sorted = bSorted := (rfl)
@[simp] theorem bfD_str1 : bfD .str1 = bStr := (rfl)
@[simp] theorem bfD_divmod : bfD .divmod = bDivmod := (rfl)
@[simp] theorem bLen_tup (xs : List D) : bLen [.tup xs] = M.pure (.int xs.length) := (rfl)
@[simp] theorem bLen_lst (b : Bool) (xs : List D) : bLen [.lst b xs] = M.pure (.int xs.length) := (rfl)
@[simp] theorem bLen_ro (xs : List D) : bLen [.ro xs] = M.pure (.int xs.length) := (rfl)
theorem bLen_str {x : Str} (h : x.length ≤ LINE) : bLen [.str x] = M.pure (.int x.length) := by
  show (if x.length ≤ LINE then (M.pure (D.int x.length) : M D) else stuck) = _
  rw [if_pos h]
@[simp] theorem bMin_ii (i j : Int) : bMin [.int i, .int j] = M.pure (.int (if j < i then j else i)) := (rfl)
@[simp] theorem bMax_ii (i j : Int) : bMax [.int i, .int j] = M.pure (.int (if j > i then j else i)) := (rfl)
@[simp] theorem bAbs_i (i : Int) : bAbs [.int i] = M.pure (.int (if i < 0 then -i else i)) := (rfl)
@[simp] theorem bInt_i (i : Int) : bInt [.int i] = M.pure (.int i) := (rfl)
@[simp] theorem bInt_b (i : Bool) : bInt [.bl i] = M.pure (.int (if i then 1 else 0)) := (rfl)
@[simp] theorem bStr_s (x : Str) : bStr [.str x] = M.pure (.str x) := (rfl)
@[simp] theorem bTuple_tup (xs : List D) : bTuple [.tup xs] = M.pure (.tup xs) := (rfl)
@[simp] theorem bTuple_lst (b : Bool) (xs : List D) : bTuple [.lst b xs] = M.pure (.tup xs) := (rfl)
@[simp] theorem bList_tup (xs : List D) : bList [.tup xs] = M.pure (.lst true xs) := (rfl)
@[simp] theorem bList_lst (b : Bool) (xs : List D) : bList [.lst b xs] = M.pure (.lst true xs) := (rfl)
@[simp] theorem bAll_nil (b : Bool) : bAll [.lst b []] = M.pure (.bl true) := (rfl)
@[simp] theorem bAny_nil (b : Bool) : bAny [.lst b []] = M.pure (.bl false) := (rfl)
@[simp] theorem itD_seq : itD .seq = itSeq := (rfl)
@[simp] theorem itD_r1 : itD .range1 = itR1 := (rfl)
@[simp] theorem itD_r2 : itD .range2 = itR2 := (rfl)
@[simp] theorem itD_zip : itD .zip = itZip := (rfl)
@[simp] theorem itSeq_tup (xs : List D) : itSeq [.tup xs] = M.pure xs := (rfl)
@[simp] theorem itSeq_lst (b : Bool) (xs : List D) : itSeq [.lst b xs] = M.pure xs := (rfl)
@[simp] theorem itSeq_ro (xs : List D) : itSeq [.ro xs] = M.pure xs := (rfl)
@[simp] theorem itSeq_str (z : Str) : itSeq [.str z] = M.pure (z.cps.toList.map fun c => .str ⟨#[c]⟩) := (rfl)
theorem itR1_nat {n : Nat} (h : n < 2 ^ 62) : itR1 [.int n] = M.pure ((List.range n).map fun (m : Nat) => D.int m) := by
  have e (j : Int) : itR1 [.int j] = (need (decide (-(2 ^ 62) ≤ j ∧ j < 2 ^ 62))).bind fun _ => M.pure ((List.range j.toNat).map fun (n : Nat) => .int n) := rfl
  rw [e, need_of (decide_eq_true (by omega)), pure_bind']
  rfl
theorem itR2_nat {a b : Nat} (h : a < 2 ^ 62) (h' : b < 2 ^ 62) : itR2 [.int a, .int b] = M.pure ((List.range (b - a)).map fun (m : Nat) => D.int ((a + m : Nat) : Int)) := by
  have e (i j : Int) : itR2 [.int i, .int j] = (need (decide (-(2 ^ 62) ≤ i ∧ i < 2 ^ 62 ∧ -(2 ^ 62) ≤ j ∧ j < 2 ^ 62))).bind fun _ => M.pure ((List.range (j - i).toNat).map fun (n : Nat) => .int (i + n)) := rfl
  rw [e, need_of (decide_eq_true (by omega)), pure_bind', show ((b : Int) - (a : Int)).toNat = b - a by omega]
  simp
theorem itR2_1 {b : Nat} (h' : b < 2 ^ 62) : itR2 [.int 1, .int b] = M.pure ((List.range (b - 1)).map fun (m : Nat) => D.int ((m + 1 : Nat) : Int)) := by
  have := itR2_nat (a := 1) (b := b) (by decide) h'
  rw [show ((1 : Nat) : Int) = 1 from rfl] at this
  rw [this]
  congr 2
  funext m
  rw [Nat.add_comm]
theorem toLine {n : Nat} (h : n ≤ 16777216) : n ≤ LINE := h
theorem to62 {n : Nat} (h : n ≤ 16777216) : n < 2 ^ 62 := by omega
def ltO {α : Type} (lt : α → α → Bool) : Option α → Option α → Bool
  | some a, some b => lt a b
  | _, _ => false
/-- each item ahead of the next, by its place -/
def ascB {α : Type} (lt : α → α → Bool) (xs : List α) : Bool := (List.range (xs.length - 1)).all fun i => ltO lt xs[i]? xs[i + 1]?
theorem ascB_nil {α : Type} (lt : α → α → Bool) : ascB lt [] = true := rfl
theorem ascB_one {α : Type} (lt : α → α → Bool) (a : α) : ascB lt [a] = true := rfl
theorem ascB_cons {α : Type} (lt : α → α → Bool) (a b : α) (r : List α) : ascB lt (a :: b :: r) = (lt a b && ascB lt (b :: r)) := by
  unfold ascB
  rw [show (a :: b :: r).length - 1 = (b :: r).length - 1 + 1 by simp, List.range_succ_eq_map, List.all_cons, List.all_map]
  rfl
theorem cast_pred (m : Nat) : ((m + 1 : Nat) : Int) - 1 = (m : Int) := by omega
@[simp] theorem itZip_tt (xs ys : List D) : itZip [.tup xs, .tup ys] = M.pure ((xs.zip ys).map fun p => .tup [p.1, p.2]) := (rfl)
@[simp] theorem itZip_ll (b b' : Bool) (xs ys : List D) : itZip [.lst b xs, .lst b' ys] = M.pure ((xs.zip ys).map fun p => .tup [p.1, p.2]) := (rfl)
@[simp] theorem cmpD_lt_i (i j : Int) : cmpD .Lt (.int i) (.int j) = M.pure (.bl (decide (i < j))) := (rfl)
@[simp] theorem cmpD_gt_i (i j : Int) : cmpD .Gt (.int i) (.int j) = M.pure (.bl (decide (j < i))) := (rfl)
@[simp] theorem cmpD_le_i (i j : Int) : cmpD .LtE (.int i) (.int j) = M.pure (.bl (decide (i ≤ j))) := (rfl)
@[simp] theorem cmpD_ge_i (i j : Int) : cmpD .GtE (.int i) (.int j) = M.pure (.bl (decide (j ≤ i))) := (rfl)
@[simp] theorem cmpD_lt_s (i j : Str) : cmpD .Lt (.str i) (.str j) = M.pure (.bl (decide (i.cps.toList < j.cps.toList))) := (rfl)
theorem int_beq (i j : Int) : (i == j) = decide (i = j) := by
  by_cases h : i = j
  · subst h; simp
  · simp [h]
@[simp] theorem eqD_i (i j : Int) : eqD (.int i) (.int j) = some (decide (i = j)) := by
  show some (i == j) = _
  rw [int_beq]
@[simp] theorem cmpD_eq_i (i j : Int) : cmpD .Eq (.int i) (.int j) = M.pure (.bl (decide (i = j))) := by unfold cmpD; rw [eqD_i]; rfl
@[simp] theorem cmpD_ne_i (i j : Int) : cmpD .NotEq (.int i) (.int j) = M.pure (.bl (!decide (i = j))) := by unfold cmpD; rw [eqD_i]; rfl
@[simp] theorem eqD_b (i j : Bool) : eqD (.bl i) (.bl j) = some (i == j) := (rfl)
@[simp] theorem cmpD_eq_b (i j : Bool) : cmpD .Eq (.bl i) (.bl j) = M.pure (.bl (i == j)) := (rfl)
@[simp] theorem cmpD_is_b (i j : Bool) : cmpD .Is (.bl i) (.bl j) = M.pure (.bl (decide (i = j))) := (rfl)
@[simp] theorem cmpD_isnot_b (i j : Bool) : cmpD .IsNot (.bl i) (.bl j) = M.pure (.bl (!decide (i = j))) := (rfl)
/-- the text's signs may lie in memory -/
def okS (x : Str) : Bool := PyData.canLay0 (.str x)
theorem eqD_s {i j : Str} (h : okS i = true) (h' : okS j = true) : eqD (.str i) (.str j) = some (i == j) := by
  unfold eqD
  show (if SeqAt.shaped (.str i) && SeqAt.shaped (.str j) then some (i == j) else none) = _
  rw [if_pos]
  unfold SeqAt.shaped
  rw [show PyData.canLay0 (.str i) = true from h, show PyData.canLay0 (.str j) = true from h']
  rfl
theorem cmpD_eq_s {i j : Str} (h : okS i = true) (h' : okS j = true) : cmpD .Eq (.str i) (.str j) = M.pure (.bl (i == j)) := by unfold cmpD; rw [eqD_s h h']; rfl
theorem cmpD_ne_s {i j : Str} (h : okS i = true) (h' : okS j = true) : cmpD .NotEq (.str i) (.str j) = M.pure (.bl (!(i == j))) := by unfold cmpD; rw [eqD_s h h']; rfl
theorem cmpD_in {x y : D} {b : Bool} (h : inD x y = some b) : cmpD .In x y = M.pure (.bl b) := by unfold cmpD; rw [h]; rfl
theorem cmpD_notin {x y : D} {b : Bool} (h : inD x y = some b) : cmpD .NotIn x y = M.pure (.bl (!b)) := by unfold cmpD; rw [h]; rfl
theorem cmpD_eq {x y : D} {b : Bool} (h : eqD x y = some b) : cmpD .Eq x y = M.pure (.bl b) := by unfold cmpD; rw [h]; rfl
theorem cmpD_ne {x y : D} {b : Bool} (h : eqD x y = some b) : cmpD .NotEq x y = M.pure (.bl (!b)) := by unfold cmpD; rw [h]; rfl
@[simp] theorem binD_add (i j : Int) : binD .Add (.int i) (.int j) = M.pure (.int (i + j)) := (rfl)
@[simp] theorem binD_sub (i j : Int) : binD .Sub (.int i) (.int j) = M.pure (.int (i - j)) := (rfl)
theorem binD_mul {i j : Int} (h : mulOk i j = true) : binD .Mult (.int i) (.int j) = M.pure (.int (i * j)) := by
  show (need _).bind _ = _
  rw [need_of h]; rfl
theorem binD_mod {i j : Int} (h : 0 < j) : binD .Mod (.int i) (.int j) = M.pure (.int (i % j)) := by
  show (need _).bind _ = _
  rw [need_of (by simpa using h)]; rfl
theorem binD_div {i j : Int} (h : pyDiv i j = true) : binD .FloorDiv (.int i) (.int j) = M.pure (.int (i / j)) := by
  show (need _).bind _ = _
  rw [need_of h]; rfl
@[simp] theorem binD_and (i j : Int) : binD .BitAnd (.int i) (.int j) = M.pure (.int (Builtin.bitAnd i j)) := (rfl)
theorem binD_shr {i : Int} {j : Nat} : binD .RShift (.int i) (.int j) = M.pure (.int (i / 2 ^ j)) := by
  have e (i j : Int) : binD .RShift (.int i) (.int j) = (need (decide (0 ≤ j))).bind fun _ => M.pure (.int (i / 2 ^ j.toNat)) := rfl
  rw [e, need_of (decide_eq_true (by omega)), pure_bind']
  simp
theorem lenOk_of {n : Nat} (h : n ≤ LINE) : lenOk n = true := by unfold lenOk; exact decide_eq_true h
theorem need_len {n : Nat} (h : n ≤ LINE) : need (lenOk n) = M.pure () := need_of (lenOk_of h)
theorem binD_addT {a b : List D} (h : a.length + b.length ≤ LINE) : binD .Add (.tup a) (.tup b) = M.pure (.tup (a ++ b)) := by
  show (need _).bind _ = _
  rw [need_len h]; rfl
theorem binD_addL {a b : List D} {f f' : Bool} (h : a.length + b.length ≤ LINE) : binD .Add (.lst f a) (.lst f' b) = M.pure (.lst true (a ++ b)) := by
  show (need _).bind _ = _
  rw [need_len h]; rfl
theorem binD_addS {a b : Str} (h : a.length + b.length ≤ LINE) : binD .Add (.str a) (.str b) = M.pure (.str (a ++ b)) := by
  show (need _).bind _ = _
  rw [need_len h]; rfl
theorem atI_ofNat {α : Type} (xs : List α) (n : Nat) : L2.atI xs (n : Int) = xs[n]? := by
  unfold L2.atI L2.ixN
  rw [if_pos (by omega)]
  by_cases h : n < xs.length
  · rw [if_pos (by omega)]; simp
  · rw [if_neg (by omega)]; simp; omega
@[simp] theorem atI_0 {α : Type} (xs : List α) : L2.atI xs 0 = xs[0]? := atI_ofNat xs 0
@[simp] theorem atI_1 {α : Type} (xs : List α) : L2.atI xs 1 = xs[1]? := atI_ofNat xs 1
@[simp] theorem atI_2 {α : Type} (xs : List α) : L2.atI xs 2 = xs[2]? := atI_ofNat xs 2
@[simp] theorem atI_3 {α : Type} (xs : List α) : L2.atI xs 3 = xs[3]? := atI_ofNat xs 3
theorem atI_m1 {α : Type} (xs : List α) : L2.atI xs (-1) = xs.getLast? := by
  unfold L2.atI L2.ixN
  rw [if_neg (by omega)]
  cases xs with
  | nil => rfl
  | cons x xs =>
    rw [if_pos (by simp; omega), Option.bind_some, List.getLast?_eq_getElem?]
    congr 1
    simp; omega
@[simp] theorem subD_tup (xs : List D) (i : Int) : subD (.tup xs) (.int i) = ofOpt (L2.atI xs i) := (rfl)
@[simp] theorem subD_lst (b : Bool) (xs : List D) (i : Int) : subD (.lst b xs) (.int i) = ofOpt (L2.atI xs i) := (rfl)
@[simp] theorem subD_ro (xs : List D) (i : Int) : subD (.ro xs) (.int i) = ofOpt (L2.atI xs i) := (rfl)
theorem subD_at {xs : List D} {n : Nat} {d : D} (h : xs[n]? = some d) : subD (.tup xs) (.int (n : Int)) = M.pure d := by rw [subD_tup, atI_ofNat, h]; rfl
theorem subD_atL {b : Bool} {xs : List D} {n : Nat} {d : D} (h : xs[n]? = some d) : subD (.lst b xs) (.int (n : Int)) = M.pure d := by rw [subD_lst, atI_ofNat, h]; rfl
@[simp] theorem sliceD_tup (xs : List D) (lo hi : Option Int) : sliceD (.tup xs) lo hi = M.pure (.tup (cutD xs lo hi)) := (rfl)
@[simp] theorem sliceD_lst (b : Bool) (xs : List D) (lo hi : Option Int) : sliceD (.lst b xs) lo hi = M.pure (.lst true (cutD xs lo hi)) := (rfl)
theorem cut_to (xs : List D) (n : Nat) : cutD xs none (some (n : Int)) = xs.take n := by
  unfold cutD
  rw [HT.sIx_none, HT.sIx_nat, List.drop_zero, Nat.sub_zero]
  by_cases h : n ≤ xs.length
  · rw [Nat.min_eq_left h]
  · rw [Nat.min_eq_right (by omega), List.take_of_length_le (Nat.le_refl _), List.take_of_length_le (by omega)]
theorem cut_from (xs : List D) (n : Nat) : cutD xs (some (n : Int)) none = xs.drop n := by
  unfold cutD
  rw [HT.sIx_none, HT.sIx_nat]
  by_cases h : n ≤ xs.length
  · rw [Nat.min_eq_left h, List.take_of_length_le (by simp)]
  · rw [Nat.min_eq_right (by omega)]; simp; omega
theorem sIx_neg (n d : Nat) : HT.sIx n d (some (-1)) = n - 1 := by
  show (if (-1 : Int) < 0 then ((-1 : Int) + (n : Int)).toNat else min (-1 : Int).toNat n) = n - 1
  rw [if_pos (by omega)]
  omega
theorem cut_to1 (xs : List D) : cutD xs none (some (-1)) = xs.dropLast := by
  unfold cutD
  rw [HT.sIx_none, sIx_neg, List.drop_zero, List.dropLast_eq_take, Nat.sub_zero]
theorem cut_last (xs : List D) : cutD xs (some (-1)) none = xs.drop (xs.length - 1) := by
  unfold cutD
  rw [HT.sIx_none, sIx_neg, List.take_of_length_le (by simp)]
@[simp] theorem truM_str0 : truM (.str Str.empty) = M.pure false := (rfl)
@[simp] theorem wipe_nil (env : Env) : Bc.wipe env [] = env := (rfl)
@[simp] theorem wipe_cons (env : Env) (v : Nat) (vs : List Nat) : Bc.wipe env (v :: vs) = (Bc.wipe env vs).set v .un := (rfl)
@[simp] theorem asSeq_tup (xs : List D) : asSeq (.tup xs) = some xs := (rfl)
@[simp] theorem asSeq_lst (b : Bool) (xs : List D) : asSeq (.lst b xs) = some xs := (rfl)
@[simp] theorem evE_lc2 {c : Cl} {env : Env} {t t1 : T} {k k1 : Itb} {it cs it1 cs1 : Es} {e : E} {own own1 : List Nat} : evE c (.lc2 t k it cs t1 k1 it1 cs1 e own own1) env = (evEs c it env).bind fun ds => (itD k ds).bind fun items =>
      (noX (flatO (fun d => (asgT c t d (Bc.wipe env own)).bind fun env1 => (evCs c cs env1).bind fun b =>
        if b then (evEs c it1 env1).bind fun ds1 => (itD k1 ds1).bind fun items1 =>
          mapO (fun d1 => (asgT c t1 d1 (Bc.wipe env1 own1)).bind fun env2 => (evCs c cs1 env2).bind fun b2 => if b2 then (evE c e env2).bind fun y => M.pure (some y) else M.pure none) items1
        else M.pure []) items)).bind fun ys =>
      (need (lenOk ys.length)).bind fun _ => M.pure (.lst true ys) := by rw [evE] <;> rfl
theorem mapO_nil (f : D → M (Option D)) : mapO f [] = M.pure [] := rfl
theorem mapO_cons1 (f : D → M (Option D)) (x : D) (xs : List D) : mapO f (x :: xs) = (f x).bind fun o => (mapO f xs).bind fun r => match o with
    | some y => M.pure (y :: r)
    | none => M.pure r := rfl
theorem flatO_nil (f : D → M (List D)) : flatO f [] = M.pure [] := rfl
theorem flatO_cons1 (f : D → M (List D)) (x : D) (xs : List D) : flatO f (x :: xs) = (f x).bind fun o => (flatO f xs).bind fun r => M.pure (o ++ r) := rfl
/-! ### isinstance -/
@[simp] theorem isi_tup_tuple (xs : List D) : isiDs (.tup xs) [.tuple] = some true := (rfl)
@[simp] theorem isi_lst_tuple (b : Bool) (xs : List D) : isiDs (.lst b xs) [.tuple] = some false := (rfl)
@[simp] theorem isi_int_tuple (i : Int) : isiDs (.int i) [.tuple] = some false := (rfl)
@[simp] theorem isi_bl_tuple (i : Bool) : isiDs (.bl i) [.tuple] = some false := (rfl)
@[simp] theorem isi_str_tuple (i : Str) : isiDs (.str i) [.tuple] = some false := (rfl)
@[simp] theorem isi_non (t : Ty) : isiDs .non [t] = some false := by cases t <;> rfl
@[simp] theorem isi_str_str (i : Str) : isiDs (.str i) [.str] = some true := (rfl)
@[simp] theorem isi_bl_bool (i : Bool) : isiDs (.bl i) [.bool] = some true := (rfl)
@[simp] theorem isi_int_bool (i : Int) : isiDs (.int i) [.bool] = some false := (rfl)
@[simp] theorem isi_str_bool (i : Str) : isiDs (.str i) [.bool] = some false := (rfl)
@[simp] theorem isi_lst_bool (b : Bool) (xs : List D) : isiDs (.lst b xs) [.bool] = some false := (rfl)
@[simp] theorem isi_tup_bool (xs : List D) : isiDs (.tup xs) [.bool] = some false := (rfl)
@[simp] theorem isi_tup_str (xs : List D) : isiDs (.tup xs) [.str] = some false := (rfl)
@[simp] theorem isi_lst_str (b : Bool) (xs : List D) : isiDs (.lst b xs) [.str] = some false := (rfl)
@[simp] theorem isi_int_str (i : Int) : isiDs (.int i) [.str] = some false := (rfl)
@[simp] theorem isi_bl_str (i : Bool) : isiDs (.bl i) [.str] = some false := (rfl)
theorem mapO_map {α : Type} {f : D → M (Option D)} {e g : α → D} : ∀ {xs : List α}, (∀ x ∈ xs, f (e x) = M.pure (some (g x))) → mapO f (xs.map e) = M.pure (xs.map g)
  | [], _ => rfl
  | x :: xs, h => by
    rw [List.map_cons]
    unfold mapO
    rw [h x (List.mem_cons_self ..), mapO_map fun y hy => h y (List.mem_cons_of_mem _ hy)]
    rfl
theorem mapO_mapF {α : Type} {f : D → M (Option D)} {p : α → Bool} {e g : α → D} : ∀ {xs : List α}, (∀ x ∈ xs, f (e x) = M.pure (if p x then some (g x) else none)) → mapO f (xs.map e) = M.pure ((xs.filter p).map g)
  | [], _ => rfl
  | x :: xs, h => by
    rw [List.map_cons]
    unfold mapO
    rw [h x (List.mem_cons_self ..), mapO_mapF fun y hy => h y (List.mem_cons_of_mem _ hy)]
    cases hp : p x with
    | true => simp [pure_bind', hp, List.filter_cons, pure_eq]
    | false => simp [pure_bind', hp, List.filter_cons, pure_eq]
/-- a loop as a fold; j is what else the frame keeps -/
theorem forL_fold {α β J : Type} {f : D → Env → M (Fl × Env)} {e : β → D} (mk : α → J → Env) (step : α → β → α) (I : α → Prop) : ∀ {xs : List β} {a : α} {j : J}, I a → (∀ x ∈ xs, ∀ a j, I a → I (step a x) ∧ ∃ j', f (e x) (mk a j) = M.pure (.nx, mk (step a x) j')) → ∃ j', forL f (xs.map e) (mk a j) = M.pure (.nx, mk (xs.foldl step a) j') ∧ I (xs.foldl step a)
  | [], a, j, hI, _ => ⟨j, rfl, hI⟩
  | x :: xs, a, j, hI, h => by
    obtain ⟨h1, j1, e1⟩ := h x (List.mem_cons_self ..) a j hI
    obtain ⟨j2, e2, i2⟩ := forL_fold mk step I (xs := xs) (a := step a x) (j := j1) h1 fun y hy => h y (List.mem_cons_of_mem _ hy)
    refine ⟨j2, ?_, i2⟩
    rw [List.map_cons]
    unfold forL
    rw [e1, pure_bind']
    exact e2
/-- .. with what follows -/
theorem forL_then {α β γ J : Type} {f : D → Env → M (Fl × Env)} {e : β → D} (mk : α → J → Env) (step : α → β → α) (I : α → Prop) {xs : List β} {a : α} {j : J} {g : Fl × Env → M γ} {r : M γ} (hI : I a)
    (hf : ∀ x ∈ xs, ∀ a j, I a → I (step a x) ∧ ∃ j', f (e x) (mk a j) = M.pure (.nx, mk (step a x) j')) (hr : ∀ j', I (xs.foldl step a) → g (.nx, mk (xs.foldl step a) j') = r) : (forL f (xs.map e) (mk a j)).bind g = r := by
  obtain ⟨j', h, i⟩ := forL_fold mk step I hI hf
  rw [h, pure_bind']
  exact hr j' i
/-- a loop that returns at the first item that p finds -/
theorem forL_find {β J : Type} {f : D → Env → M (Fl × Env)} {e : β → D} (mk : J → Env) (p : β → Bool) (d : D) : ∀ {xs : List β} {j : J}, (∀ x ∈ xs, ∀ j, ∃ j', f (e x) (mk j) = M.pure (if p x then .rt d else .nx, mk j')) → ∃ j', forL f (xs.map e) (mk j) = M.pure (if xs.any p then .rt d else .nx, mk j')
  | [], j, _ => ⟨j, rfl⟩
  | x :: xs, j, h => by
    obtain ⟨j1, e1⟩ := h x (List.mem_cons_self ..) j
    cases hp : p x with
    | true =>
      refine ⟨j1, ?_⟩
      rw [hp] at e1
      rw [List.map_cons]
      unfold forL
      rw [e1, List.any_cons, hp]
      rfl
    | false =>
      obtain ⟨j2, e2⟩ := forL_find mk p d (xs := xs) (j := j1) fun y hy => h y (List.mem_cons_of_mem _ hy)
      refine ⟨j2, ?_⟩
      rw [hp] at e1
      rw [List.map_cons]
      unfold forL
      rw [e1, List.any_cons, hp]
      exact e2
theorem forL_find_then {β γ J : Type} {f : D → Env → M (Fl × Env)} {e : β → D} (mk : J → Env) (p : β → Bool) (d : D) {xs : List β} {j : J} {g : Fl × Env → M γ} {r : M γ}
    (hf : ∀ x ∈ xs, ∀ j, ∃ j', f (e x) (mk j) = M.pure (if p x then .rt d else .nx, mk j')) (hr : ∀ j', g (if xs.any p then .rt d else .nx, mk j') = r) : (forL f (xs.map e) (mk j)).bind g = r := by
  obtain ⟨j', h⟩ := forL_find mk p d hf
  rw [h, pure_bind']
  exact hr j'
/-! ### runs with a store -/
/-- m runs from each store of P to an end of Q -/
def Tri {α : Type} (P : Sto → Prop) (m : M α) (Q : α → Sto → Prop) : Prop := ∀ s, P s → ∃ a s', m s = .ok (a, s') ∧ Q a s'
section
variable {α β : Type} {P P' : Sto → Prop} {Q Q' : α → Sto → Prop}
theorem Tri.pure {a : α} (h : ∀ s, P s → Q a s) : Tri P (M.pure a) Q := fun s hs => ⟨a, s, rfl, h s hs⟩
theorem Tri.bind {m : M α} {f : α → M β} {R : β → Sto → Prop} (h : Tri P m Q) (h' : ∀ a, Tri (Q a) (f a) R) : Tri P (m.bind f) R := fun s hs => by
  obtain ⟨a, s', e, q⟩ := h s hs
  obtain ⟨b, s2, e2, r⟩ := h' a s' q
  exact ⟨b, s2, by unfold M.bind; rw [e]; exact e2, r⟩
theorem Tri.weaken {m : M α} (h : Tri P m Q) (hq : ∀ a s, Q a s → Q' a s) : Tri P m Q' := fun s hs => by
  obtain ⟨a, s', e, q⟩ := h s hs
  exact ⟨a, s', e, hq a s' q⟩
theorem Tri.pre {m : M α} (h : Tri P m Q) (hp : ∀ s, P' s → P s) : Tri P' m Q := fun s hs => h s (hp s hs)
theorem Tri.noX {m : M α} (h : Tri P m Q) : Tri P (noX m) Q := fun s hs => by
  obtain ⟨a, s', e, q⟩ := h s hs
  exact ⟨a, s', by unfold Bc.noX; rw [e], q⟩
theorem Tri.eq {m m' : M α} (e : m = m') (h : Tri P m' Q) : Tri P m Q := e ▸ h
/-- a fact of the end taken out -/
theorem Tri.bindF {m : M α} {f : α → M β} {F : α → Prop} {S : α → Sto → Prop} {R : β → Sto → Prop} (h : Tri P m fun a s => F a ∧ S a s) (h' : ∀ a, F a → Tri (S a) (f a) R) : Tri P (m.bind f) R := fun s hs => by
  obtain ⟨a, s', e, q, q'⟩ := h s hs
  obtain ⟨b, s2, e2, r⟩ := h' a q s' q'
  exact ⟨b, s2, by unfold M.bind; rw [e]; exact e2, r⟩
end
inductive All2 {α β : Type} (F : α → β → Prop) : List α → List β → Prop
  | nil : All2 F [] []
  | cons {x : α} {y : β} {xs : List α} {ys : List β} : F x y → All2 F xs ys → All2 F (x :: xs) (y :: ys)
theorem All2.length {α β : Type} {F : α → β → Prop} {xs : List α} {ys : List β} (h : All2 F xs ys) : ys.length = xs.length := by
  induction h with
  | nil => rfl
  | cons _ _ ih => simp [ih]
/-- items by a right inverse -/
theorem All2.map {α β γ : Type} {F : α → β → Prop} {G : α → γ → Prop} {f : γ → β} (h : ∀ x y, F x y → ∃ z, y = f z ∧ G x z) {xs : List α} {ys : List β} (hs : All2 F xs ys) : ∃ zs, ys = zs.map f ∧ All2 G xs zs := by
  induction hs with
  | nil => exact ⟨[], rfl, .nil⟩
  | cons a _ ih =>
    obtain ⟨zs, e, g⟩ := ih
    obtain ⟨z, e1, g1⟩ := h _ _ a
    exact ⟨z :: zs, by rw [e, e1]; rfl, .cons g1 g⟩
theorem All2.right {α β : Type} {F : α → β → Prop} {P : β → Prop} (h : ∀ x y, F x y → P y) {xs : List α} {ys : List β} (hs : All2 F xs ys) : ∀ y ∈ ys, P y := by
  induction hs with
  | nil => intro y hy; cases hy
  | cons a _ ih =>
    intro y hy
    cases hy with
    | head => exact h _ _ a
    | tail _ hy => exact ih y hy
/-- a comprehension whose items draw -/
theorem tri_mapO {f : D → M (Option D)} {I : Nat → Sto → Prop} {F : D → D → Prop} {xs : List D} {n : Nat} (h : ∀ x ∈ xs, ∀ n, Tri (I n) (f x) fun o s => (∃ y, o = some y ∧ F x y) ∧ I (n + 1) s) :
    Tri (I n) (mapO f xs) fun ys s => All2 F xs ys ∧ I (n + xs.length) s := by
  induction xs generalizing n with
  | nil => exact Tri.pure fun s hs => ⟨.nil, hs⟩
  | cons x xs ih =>
    unfold mapO
    refine Tri.bindF (h x (List.mem_cons_self ..) n) fun o ho => ?_
    obtain ⟨y, rfl, hy⟩ := ho
    refine Tri.bindF (ih fun z hz => h z (List.mem_cons_of_mem _ hz)) fun ys hys => ?_
    refine Tri.pure fun s hs => ⟨.cons hy hys, ?_⟩
    rw [List.length_cons, show n + (xs.length + 1) = n + 1 + xs.length by omega]
    exact hs
end Bc

set_option linter.all false
set_option autoImplicit false
set_option maxRecDepth 100000
set_option maxHeartbeats 1000000
namespace Bc
open PySem PySem.Spec L2
theorem forL_find0_then {γ J : Type} {f : D → Env → M (Fl × Env)} (mk : J → Env) (p : D → Bool) (d : D) {xs : List D} {j : J} {g : Fl × Env → M γ} {r : M γ}
    (hf : ∀ x ∈ xs, ∀ j, ∃ j', f x (mk j) = M.pure (if p x then .rt d else .nx, mk j')) (hr : ∀ j', g (if xs.any p then .rt d else .nx, mk j') = r) : (forL f xs (mk j)).bind g = r := by
  have h := forL_find_then (f := f) (e := fun x : D => x) mk p d (xs := xs) (j := j) hf hr
  rw [List.map_id''] at h
  · exact h
  · intro x; rfl
/-! ### loops that draw -/
theorem tri_forL {f : D → Env → M (Fl × Env)} {J : Nat → Env → Prop} {I : Nat → Sto → Prop} {N : Nat} {xs : List D}
    (h : ∀ x ∈ xs, ∀ n env, n < N → J n env → ∀ Q : Fl × Env → Sto → Prop, (∀ env' s, J (n + 1) env' → I (n + 1) s → Q (.nx, env') s) → Tri (I n) (f x env) Q) :
    ∀ {n : Nat} {env : Env}, n + xs.length ≤ N → J n env → Tri (I n) (forL f xs env) fun r s => (∃ env', r = (.nx, env') ∧ J (n + xs.length) env') ∧ I (n + xs.length) s := by
  induction xs with
  | nil => intro n env hN hJ; exact Tri.pure fun s hs => ⟨⟨env, rfl, hJ⟩, hs⟩
  | cons x xs ih =>
    intro n env hN hJ
    rw [List.length_cons] at hN
    unfold forL
    refine Tri.bindF (h x (List.mem_cons_self ..) n env (by omega) hJ (fun r s => (∃ env', r = (.nx, env') ∧ J (n + 1) env') ∧ I (n + 1) s) fun env' s h1 h2 => ⟨⟨env', rfl, h1⟩, h2⟩) fun r hr => ?_
    obtain ⟨env', rfl, hJ'⟩ := hr
    have := ih (fun z hz => h z (List.mem_cons_of_mem _ hz)) (n := n + 1) (by omega) hJ'
    rw [List.length_cons, show n + (xs.length + 1) = n + 1 + xs.length by omega]
    exact this
/-- a comprehension that draws -/
theorem tri_mapP {f : D → M (Option D)} {I : Nat → Sto → Prop} {P : D → Prop} {N : Nat} {xs : List D}
    (h : ∀ x ∈ xs, ∀ n, n < N → ∀ Q : Option D → Sto → Prop, (∀ y s, P y → I (n + 1) s → Q (some y) s) → Tri (I n) (f x) Q) :
    ∀ {n : Nat}, n + xs.length ≤ N → Tri (I n) (mapO f xs) fun ys s => (ys.length = xs.length ∧ ∀ y ∈ ys, P y) ∧ I (n + xs.length) s := by
  induction xs with
  | nil => intro n hN; exact Tri.pure fun s hs => ⟨⟨rfl, by intro y hy; cases hy⟩, hs⟩
  | cons x xs ih =>
    intro n hN
    rw [List.length_cons] at hN
    unfold mapO
    refine Tri.bindF (h x (List.mem_cons_self ..) n (by omega) (fun o s => (∃ y, o = some y ∧ P y) ∧ I (n + 1) s) fun y s h1 h2 => ⟨⟨y, rfl, h1⟩, h2⟩) fun r hr => ?_
    obtain ⟨y, rfl, hy⟩ := hr
    refine Tri.bindF (ih (fun z hz => h z (List.mem_cons_of_mem _ hz)) (n := n + 1) (by omega)) fun ys hys => ?_
    refine Tri.pure fun s hs => ⟨⟨by rw [List.length_cons, List.length_cons, hys.1], ?_⟩, ?_⟩
    · intro z hz
      cases hz with
      | head => exact hy
      | tail _ hz => exact hys.2 z hz
    · rw [List.length_cons, show n + (xs.length + 1) = n + 1 + xs.length by omega]
      exact hs
theorem lift_map {α : Type} {g : α → D} {G : α → Prop} : ∀ {ys : List D}, (∀ y ∈ ys, ∃ z, y = g z ∧ G z) → ∃ zs : List α, ys = zs.map g ∧ zs.length = ys.length ∧ ∀ z ∈ zs, G z
  | [], _ => ⟨[], rfl, rfl, by intro z hz; cases hz⟩
  | y :: ys, h => by
    obtain ⟨z, e, hz⟩ := h y (List.mem_cons_self ..)
    obtain ⟨zs, e2, l, hs⟩ := lift_map (ys := ys) fun y hy => h y (List.mem_cons_of_mem _ hy)
    refine ⟨z :: zs, by rw [e, e2]; rfl, by rw [List.length_cons, List.length_cons, l], ?_⟩
    intro u hu
    cases hu with
    | head => exact hz
    | tail _ hu => exact hs u hu
/-- a while by a measure -/
theorem whileL_inv {α : Type} {t : Env → M Bool} {f : Env → M (Fl × Env)} (mk : α → Env) (cond : α → Bool) (I : α → Prop) (μ : α → Nat)
    (ht : ∀ a, I a → t (mk a) = M.pure (cond a)) (hf : ∀ a, I a → cond a = true → ∃ a', f (mk a) = M.pure (.nx, mk a') ∧ I a' ∧ μ a' < μ a) :
    ∀ {w : Nat} {a : α}, I a → μ a < w → ∃ a', whileL t f w (mk a) = M.pure (.nx, mk a') ∧ I a' ∧ cond a' = false := by
  intro w
  induction w with
  | zero => intro a _ h; omega
  | succ w ih =>
    intro a hI hw
    unfold whileL
    rw [ht a hI, pure_bind']
    cases hc : cond a with
    | false => exact ⟨a, rfl, hI, hc⟩
    | true =>
      obtain ⟨a1, e1, i1, m1⟩ := hf a hI hc
      obtain ⟨a2, e2, i2, c2⟩ := ih i1 (by omega)
      refine ⟨a2, ?_, i2, c2⟩
      rw [if_pos rfl, e1, pure_bind']
      exact e2
theorem whileL_then {α γ : Type} {t : Env → M Bool} {f : Env → M (Fl × Env)} (mk : α → Env) (cond : α → Bool) (I : α → Prop) (μ : α → Nat) {w : Nat} {a : α} {g : Fl × Env → M γ} {r : M γ}
    (hI : I a) (hw : μ a < w) (ht : ∀ a, I a → t (mk a) = M.pure (cond a)) (hf : ∀ a, I a → cond a = true → ∃ a', f (mk a) = M.pure (.nx, mk a') ∧ I a' ∧ μ a' < μ a)
    (hr : ∀ a', I a' → cond a' = false → g (.nx, mk a') = r) : (whileL t f w (mk a)).bind g = r := by
  obtain ⟨a', e, i, c⟩ := whileL_inv mk cond I μ ht hf hI hw
  rw [e, pure_bind']
  exact hr a' i c
/-! ### a purse -/
theorem tri_loc {γ : Type} {f : D → M γ} {Q : γ → Sto → Prop} {s0 : Sto} {p : Nat} {xs : List D} {i : Int} {d : D} (h : s0[p]? = some xs) (h' : L2.atI xs i = some d) (hf : Tri (· = s0) (f d) Q) : Tri (· = s0) ((subD (.loc p) (.int i)).bind f) Q := by
  intro s hs
  subst hs
  obtain ⟨a, s', e, q⟩ := hf s rfl
  refine ⟨a, s', ?_, q⟩
  have e1 : subD (.loc p) (.int i) s = .ok (d, s) := by
    show locAt p i s = _
    unfold locAt
    rw [h, Option.bind_some, h']
    rfl
  unfold M.bind
  rw [e1]
  exact e
theorem tri_set {γ : Type} {f : Unit → M γ} {Q : γ → Sto → Prop} {s0 : Sto} {p : Nat} {xs : List D} {i : Int} {j : Nat} {v : D} (h : s0[p]? = some xs) (h' : L2.ixN xs.length i = some j) (hv : nob v = true) (hf : Tri (· = s0.set p (xs.set j v)) (f ()) Q) : Tri (· = s0) ((setSub (.loc p) (.int i) v).bind f) Q := by
  intro s hs
  subst hs
  obtain ⟨a, s', e, q⟩ := hf _ rfl
  refine ⟨a, s', ?_, q⟩
  have : setSub (.loc p) (.int i) v s = .ok ((), s.set p (xs.set j v)) := by
    unfold setSub
    simp only [h, h', hv]
    rfl
  unfold M.bind
  rw [this]
  exact e
theorem inD_lst {x : D} {b : Bool} {xs : List D} {d : PyData} {ds : List PyData} (h1 : toPy x = some d) (h2 : toPys xs = some ds) (h3 : SeqAt.shaped d = true) (h4 : SeqAt.shaped (.list ds) = true) : inD x (.lst b xs) = some (ds.any fun z => PyData.eqv z d) := by
  simp only [inD, h1, h2, h3, h4]
  rfl
def purse (a b c : Int) : List D := [.int a, .int b, .int c]
/-- a purse of which at most n draws were made -/
def Pur (p n : Nat) (s : Sto) : Prop := ∃ a b c : Int, s[p]? = some (purse a b c) ∧ 0 ≤ a ∧ a < 2147483563 ∧ 0 ≤ b ∧ 0 ≤ c ∧ c ≤ n
theorem Pur.mono {p n m : Nat} {s : Sto} (h : Pur p n s) (l : n ≤ m) : Pur p m s := by
  obtain ⟨a, b, c, e, h1, h2, h3, h4, h5⟩ := h
  exact ⟨a, b, c, e, h1, h2, h3, h4, by omega⟩
theorem log2_small {n : Nat} (h : n < 2 ^ 64) : n.log2 < 64 := by
  by_cases h0 : n = 0
  · subst h0; decide
  · exact (Nat.log2_lt h0).2 h
theorem mulOk_small {i j : Int} (h : i.natAbs < 2 ^ 64) (h' : j.natAbs < 2 ^ 64) : mulOk i j = true := by
  unfold mulOk
  have := log2_small h
  have := log2_small h'
  exact decide_eq_true (by omega)
theorem pyDiv_small {i j : Int} (h : 0 < j) (h' : j < 2 ^ 200) : pyDiv i j = true := by
  unfold pyDiv
  rw [PyProof.noPylong_of_log2]
  · rw [decide_eq_true h]; rfl
  · have : j.natAbs < 2 ^ 200 := by omega
    have h0 : j.natAbs ≠ 0 := by omega
    have := (Nat.log2_lt h0).2 this
    omega
end Bc

set_option linter.all false
set_option autoImplicit false
set_option maxRecDepth 100000
set_option maxHeartbeats 1000000
namespace Bc
open PySem PySem.Spec L2
/-! ### data by an injection -/
structure Enc {α : Type} [DecidableEq α] (e : α → D) (n : Nat) where
  py : α → PyData
  hpy : ∀ a, toPy (e a) = some (py a)
  lay : ∀ a, (py a).canLay0 = true
  dep : ∀ a, (py a).depth ≤ n
  eqv : ∀ a b, PyData.eqv (py a) (py b) = decide (a = b)
def Enc.int : Enc (fun i : Int => D.int i) 0 := ⟨fun i => .int i, fun _ => rfl, fun _ => rfl, fun _ => Nat.le_refl _, fun a b => int_beq a b⟩
def Enc.nat : Enc (fun i : Nat => D.int (i : Int)) 0 := ⟨fun i => .int i, fun _ => rfl, fun _ => rfl, fun _ => Nat.le_refl _, fun a b => by
  show ((a : Int) == (b : Int)) = _
  rw [int_beq, decide_eq_decide]
  omega⟩
def Enc.bool : Enc (fun b : Bool => D.bl b) 0 := ⟨fun i => .bool i, fun _ => rfl, fun _ => rfl, fun _ => Nat.le_refl _, fun a b => by
  show (a == b) = _
  cases a <;> cases b <;> rfl⟩
section
variable {α β : Type} [DecidableEq α] [DecidableEq β] {e : α → D} {g : β → D} {n : Nat}
theorem Enc.pys (h : Enc e n) : ∀ xs : List α, toPys (xs.map e) = some (xs.map h.py)
  | [] => rfl
  | x :: r => by
    rw [List.map_cons]
    unfold toPys
    rw [h.hpy x, h.pys r]
    rfl
theorem Enc.lays (h : Enc e n) : ∀ xs : List α, PyData.canLayAll0 (xs.map h.py) = true
  | [] => rfl
  | x :: r => by
    rw [List.map_cons]
    unfold PyData.canLayAll0
    rw [h.lay x, h.lays r]
    rfl
theorem Enc.deps (h : Enc e n) : ∀ xs : List α, PyData.depthAll (xs.map h.py) ≤ n
  | [] => Nat.zero_le _
  | x :: r => by
    rw [List.map_cons]
    unfold PyData.depthAll
    have := h.dep x
    have := h.deps r
    omega
theorem Enc.eqvs (h : Enc e n) : ∀ xs ys : List α, PyData.eqvAll (xs.map h.py) (ys.map h.py) = decide (xs = ys)
  | [], [] => rfl
  | [], y :: ys => by
    rw [List.map_nil, List.map_cons]
    unfold PyData.eqvAll
    simp
  | x :: xs, [] => by
    rw [List.map_nil, List.map_cons]
    unfold PyData.eqvAll
    simp
  | x :: xs, y :: ys => by
    rw [List.map_cons, List.map_cons]
    unfold PyData.eqvAll
    rw [h.eqv, h.eqvs xs ys, ← Bool.decide_and, decide_eq_decide]
    simp
def Enc.tup (h : Enc e n) : Enc (fun xs : List α => D.tup (xs.map e)) (n + 1) := ⟨fun xs => .tuple (xs.map h.py), fun xs => by
    unfold toPy; rw [h.pys]; rfl, fun xs => by unfold PyData.canLay0; exact h.lays xs, fun xs => by unfold PyData.depth; have := h.deps xs; omega, fun xs ys => by unfold PyData.eqv; exact h.eqvs xs ys⟩
def Enc.lst (h : Enc e n) (b : Bool) : Enc (fun xs : List α => D.lst b (xs.map e)) (n + 1) := ⟨fun xs => .list (xs.map h.py), fun xs => by
    unfold toPy; rw [h.pys]; rfl, fun xs => by unfold PyData.canLay0; exact h.lays xs, fun xs => by unfold PyData.depth; have := h.deps xs; omega, fun xs ys => by unfold PyData.eqv; exact h.eqvs xs ys⟩
def Enc.pair (h : Enc e n) (h' : Enc g n) : Enc (fun p : α × β => D.tup [e p.1, g p.2]) (n + 1) := ⟨fun p => .tuple [h.py p.1, h'.py p.2],
  fun p => by
    have h1 := h.hpy p.1
    have h2 := h'.hpy p.2
    simp [toPy, toPys, h1, h2],
  fun p => by
    have h1 := h.lay p.1
    have h2 := h'.lay p.2
    simp [PyData.canLay0, PyData.canLayAll0, h1, h2],
  fun p => by
    have h1 := h.dep p.1
    have h2 := h'.dep p.2
    simp [PyData.depth, PyData.depthAll]
    omega,
  fun p q => by
    have h1 := h.eqv p.1 q.1
    have h2 := h'.eqv p.2 q.2
    simp only [PyData.eqv, PyData.eqvAll, h1, h2, Bool.and_true]
    rw [← Bool.decide_and, decide_eq_decide]
    exact ⟨fun h => Prod.ext h.1 h.2, fun h => by rw [h]; exact ⟨rfl, rfl⟩⟩⟩
theorem Enc.shaped (h : Enc e n) (hn : n ≤ 64) (a : α) : SeqAt.shaped (h.py a) = true := by
  unfold SeqAt.shaped
  rw [h.lay a, decide_eq_true (show (h.py a).depth ≤ 64 from Nat.le_trans (h.dep a) hn)]
  rfl
theorem Enc.eqD (h : Enc e n) (hn : n ≤ 64) (a b : α) : eqD (e a) (e b) = some (decide (a = b)) := by
  unfold Bc.eqD
  simp only [h.hpy, h.shaped hn, h.eqv]
  rfl
theorem Enc.anys (h : Enc e n) (a : α) : ∀ xs : List α, (xs.map h.py).any (fun z => PyData.eqv z (h.py a)) = decide (a ∈ xs)
  | [] => rfl
  | x :: r => by
    rw [List.map_cons, List.any_cons, h.anys a r, h.eqv, ← Bool.decide_or, decide_eq_decide, List.mem_cons]
    exact ⟨fun h => h.elim (fun h => .inl h.symm) .inr, fun h => h.elim (fun h => .inl h.symm) .inr⟩
theorem Enc.inL0 (h : Enc e n) (hn : n < 64) {b : Bool} (a : α) (xs : List α) : inD (e a) (.lst b (xs.map e)) = some (decide (a ∈ xs)) := by
  rw [inD_lst (h.hpy a) (h.pys xs) (h.shaped (by omega) a) ((h.lst true).shaped (by omega) xs), h.anys]
theorem Enc.inT0 (h : Enc e n) (hn : n < 64) (hf : ∀ a, flatD (e a) = false) (a : α) (xs : List α) : inD (e a) (.tup (xs.map e)) = some (decide (a ∈ xs)) := by
  have h1 := h.shaped (by omega) a
  have h2 : SeqAt.shaped (.tuple (xs.map h.py)) = true := h.tup.shaped (by omega) xs
  simp only [inD, hf, h.hpy, h.pys, h1, h2, h.anys]
  rfl
theorem Enc.inL (h : Enc e n) (hn : n < 64) {b : Bool} (a : α) (xs : List α) [d : Decidable (a ∈ xs)] : inD (e a) (.lst b (xs.map e)) = some (decide (a ∈ xs)) := by
  rw [h.inL0 hn]
  congr
theorem Enc.inT (h : Enc e n) (hn : n < 64) (hf : ∀ a, flatD (e a) = false) (a : α) (xs : List α) [d : Decidable (a ∈ xs)] : inD (e a) (.tup (xs.map e)) = some (decide (a ∈ xs)) := by
  rw [h.inT0 hn hf]
  congr
theorem Enc.idxs (h : Enc e n) (a : α) : ∀ xs : List α, a ∈ xs → (xs.map h.py).findIdx? (fun z => PyData.eqv z (h.py a)) = some (xs.idxOf a)
  | [], h => by cases h
  | y :: r, hm => by
    rw [List.map_cons, List.findIdx?_cons, List.idxOf_cons, h.eqv]
    by_cases e : y = a
    · subst e; simp
    · have e' : (y == a) = false := by simpa using e
      have h' : a ∈ r := by
        cases hm with
        | head => exact absurd rfl e
        | tail _ h => exact h
      rw [e', h.idxs a r h']
      simp [e]
theorem Enc.index (h : Enc e n) (hn : n < 64) {b : Bool} {a : α} {xs : List α} (hm : a ∈ xs) : bmD .index (.lst b (xs.map e)) [e a] = M.pure (.int (xs.idxOf a : Nat)) := by
  show (ofOpt (toPy (e a))).bind (fun d => (ofOpt (toPys (xs.map e))).bind fun es => (need (SeqAt.shaped d && SeqAt.shaped (.list es))).bind fun _ => (ofOpt (es.findIdx? fun z => PyData.eqv z d)).bind fun j => (pure (D.int (j : Nat)) : M D)) = _
  rw [h.hpy, ofOpt_some', pure_bind', h.pys, ofOpt_some', pure_bind', h.shaped (by omega) a, show SeqAt.shaped (.list (xs.map h.py)) = true from (h.lst true).shaped (by omega) xs, h.idxs a xs hm]
  simp
theorem Enc.eq (h : Enc e n) (hn : n ≤ 64) (a b : α) : cmpD .Eq (e a) (e b) = M.pure (.bl (decide (a = b))) := cmpD_eq (h.eqD hn a b)
theorem Enc.ne (h : Enc e n) (hn : n ≤ 64) (a b : α) : cmpD .NotEq (e a) (e b) = M.pure (.bl (!decide (a = b))) := cmpD_ne (h.eqD hn a b)
theorem Enc.isIn (h : Enc e n) (hn : n < 64) {b : Bool} (a : α) (xs : List α) [d : Decidable (a ∈ xs)] : cmpD .In (e a) (.lst b (xs.map e)) = M.pure (.bl (decide (a ∈ xs))) := cmpD_in (h.inL hn a xs)
theorem Enc.notIn (h : Enc e n) (hn : n < 64) {b : Bool} (a : α) (xs : List α) [d : Decidable (a ∈ xs)] : cmpD .NotIn (e a) (.lst b (xs.map e)) = M.pure (.bl (!decide (a ∈ xs))) := cmpD_notin (h.inL hn a xs)
end
/-! ### runs without a store -/
def Ret {α : Type} (m : M α) (S : α → Prop) : Prop := ∃ r, m = M.pure r ∧ S r
section
variable {α β : Type} {S S' : α → Prop} {T : β → Prop}
theorem Ret.pure {a : α} (h : S a) : Ret (M.pure a) S := ⟨a, rfl, h⟩
theorem Ret.bind {m : M α} {f : α → M β} (h : Ret m S) (h' : ∀ a, S a → Ret (f a) T) : Ret (m.bind f) T := by
  obtain ⟨a, e, s⟩ := h
  rw [e, pure_bind']
  exact h' a s
theorem Ret.weaken {m : M α} (h : Ret m S) (h' : ∀ a, S a → S' a) : Ret m S' := by
  obtain ⟨a, e, s⟩ := h
  exact ⟨a, e, h' a s⟩
theorem Ret.noX {m : M α} (h : Ret m S) : Ret (noX m) S := by
  obtain ⟨a, e, s⟩ := h
  exact ⟨a, by rw [e, noX_pure], s⟩
theorem Ret.tri {m : M α} {P : Sto → Prop} (h : Ret m S) : Tri P m fun a s => S a ∧ P s := by
  obtain ⟨a, e, s⟩ := h
  rw [e]
  exact Tri.pure fun st hs => ⟨s, hs⟩
end
theorem forL_ret {α β J γ : Type} {f : D → Env → M (Fl × Env)} {e : β → D} (mk : α → J → Env) (step : α → β → α) (I : α → Prop) {xs : List β} {a : α} {j : J} {g : Fl × Env → M γ} {S : γ → Prop} (hI : I a)
    (hf : ∀ x ∈ xs, ∀ a j, I a → I (step a x) ∧ Ret (f (e x) (mk a j)) fun r => ∃ j', r = (.nx, mk (step a x) j')) (hr : ∀ j', I (xs.foldl step a) → Ret (g (.nx, mk (xs.foldl step a) j')) S) : Ret ((forL f (xs.map e) (mk a j)).bind g) S := by
  obtain ⟨j', h, i⟩ := forL_fold mk step I (xs := xs) (a := a) (j := j) hI fun x hx a j ha => by
    obtain ⟨h1, r, h2, j', rfl⟩ := hf x hx a j ha
    exact ⟨h1, j', h2⟩
  rw [h, pure_bind']
  exact hr j' i
theorem forL_find_ret {β γ J : Type} {f : D → Env → M (Fl × Env)} {e : β → D} (mk : J → Env) (p : β → Bool) (d : D) {xs : List β} {j : J} {g : Fl × Env → M γ} {S : γ → Prop}
    (hf : ∀ x ∈ xs, ∀ j, ∀ Q : Fl × Env → Prop, (∀ j', Q (if p x then .rt d else .nx, mk j')) → Ret (f (e x) (mk j)) Q) (hr : ∀ j', Ret (g (if xs.any p then .rt d else .nx, mk j')) S) : Ret ((forL f (xs.map e) (mk j)).bind g) S := by
  obtain ⟨j', h⟩ := forL_find mk p d (xs := xs) (j := j) fun x hx j => by
    obtain ⟨r, h2, j', rfl⟩ := hf x hx j (fun r => ∃ j', r = (if p x then .rt d else .nx, mk j')) fun j' => ⟨j', rfl⟩
    exact ⟨j', h2⟩
  rw [h, pure_bind']
  exact hr j'
theorem Ret.eq {α : Type} {m : M α} {a : α} (h : Ret m fun r => r = a) : m = M.pure a := by
  obtain ⟨r, e, rfl⟩ := h
  exact e
theorem whileL_ret {α γ : Type} {t : Env → M Bool} {f : Env → M (Fl × Env)} (mk : α → Env) (cond : α → Bool) (I : α → Prop) (μ : α → Nat) {w : Nat} {a : α} {g : Fl × Env → M γ} {S : γ → Prop}
    (hI : I a) (hw : μ a < w) (ht : ∀ a, I a → t (mk a) = M.pure (cond a)) (hf : ∀ a, I a → cond a = true → Ret (f (mk a)) fun r => ∃ a', r = (.nx, mk a') ∧ I a' ∧ μ a' < μ a)
    (hr : ∀ a', I a' → cond a' = false → Ret (g (.nx, mk a')) S) : Ret ((whileL t f w (mk a)).bind g) S := by
  obtain ⟨a', e, i, c⟩ := whileL_inv mk cond I μ ht (fun a i c => by
    obtain ⟨r, h1, a', rfl, h2⟩ := hf a i c
    exact ⟨a', h1, h2⟩) hI hw
  rw [e, pure_bind']
  exact hr a' i c
/-! ### dicts with tuple keys -/
@[simp] theorem evE_dcT {c : Cl} {env : Env} {t : T} {k : Itb} {it cs : Es} {e f : E} {own : List Nat} : evE c (.dcT t k it cs e f own) env = (evEs c it env).bind fun ds => (itD k ds).bind fun items =>
      (noX (foldD (fun d => (asgT c t d (Bc.wipe env own)).bind fun env1 => (evCs c cs env1).bind fun b => if b then (evE c e env1).bind fun y => (evE c f env1).bind fun z => (ofOpt (keyT y)).bind fun k => M.pure (some (k, z)) else M.pure none) items [])).bind fun kvs =>
      (need (lenOk kvs.length)).bind fun _ => M.pure (.dT true kvs) := by rw [evE] <;> rfl
theorem dVal_some {κ : Type} [DecidableEq κ] (kvs : List (κ × D)) (k : κ) : (dVal kvs k).isSome = kvs.any fun kv => decide (kv.1 = k) := by
  unfold dVal
  rw [Option.isSome_map, Bool.eq_iff_iff, List.find?_isSome, List.any_eq_true]
theorem dPut_some {κ : Type} [DecidableEq κ] (kvs : List (κ × D)) (k k' : κ) (v : D) : (dVal (dPut kvs k v) k').isSome = ((dVal kvs k').isSome || decide (k = k')) := by
  rw [dVal_some, dVal_some]
  unfold dPut
  split
  · rename_i h
    rw [List.any_map]
    have : ((fun kv : κ × D => decide (kv.1 = k')) ∘ fun kv => if kv.1 = k then (kv.1, v) else kv) = fun kv => decide (kv.1 = k') := by
      funext kv
      show decide ((if kv.1 = k then (kv.1, v) else kv).1 = k') = _
      split <;> rfl
    rw [this]
    by_cases e : k = k'
    · subst e; rw [h]; rfl
    · simp [e]
  · rw [List.any_append]
    simp
theorem dPut_len {κ : Type} [DecidableEq κ] (kvs : List (κ × D)) (k : κ) (v : D) : (dPut kvs k v).length ≤ kvs.length + 1 := by
  unfold dPut
  split
  · rw [List.length_map]; omega
  · rw [List.length_append]; exact Nat.le_refl _
theorem foldD_keys {α : Type} {e : α → D} {key : α → List L2.Key} {f : D → M (Option (List L2.Key × D))} {v : D} : ∀ {xs : List α} {acc : List (List L2.Key × D)}, (∀ x ∈ xs, f (e x) = M.pure (some (key x, v))) → acc.length + xs.length ≤ 16777216 →
    ∃ kvs, foldD f (xs.map e) acc = M.pure kvs ∧ kvs.length ≤ acc.length + xs.length ∧ ∀ k, (dVal kvs k).isSome = ((dVal acc k).isSome || xs.any fun x => decide (key x = k))
  | [], acc, _, _ => ⟨acc, rfl, Nat.le_refl _, fun k => by simp⟩
  | x :: xs, acc, h, hl => by
    rw [List.length_cons] at hl
    have hp := dPut_len acc (key x) v
    obtain ⟨kvs, h1, h2, h3⟩ := foldD_keys (acc := dPut acc (key x) v) (fun y hy => h y (List.mem_cons_of_mem _ hy)) (by omega)
    refine ⟨kvs, ?_, by rw [List.length_cons]; omega, fun k => ?_⟩
    · rw [List.map_cons]
      unfold foldD
      rw [h x (List.mem_cons_self ..), pure_bind']
      show (need _).bind _ = _
      rw [need_of (decide_eq_true (show acc.length < LINE from (show acc.length < 16777216 by omega))), pure_bind']
      exact h1
    · rw [h3, dPut_some, List.any_cons, Bool.or_assoc]
/-- eqD of values that are encoded otherwise -/
theorem eqD_of {x y : D} {d e : PyData} (h1 : toPy x = some d) (h2 : toPy y = some e) (h3 : SeqAt.shaped d = true) (h4 : SeqAt.shaped e = true) : eqD x y = some (PyData.eqv d e) := by
  unfold eqD
  simp only [h1, h2, h3, h4]
  rfl
end Bc

set_option linter.all false
set_option autoImplicit false
namespace Bc
theorem pigeon : ∀ (n : Nat) (f : Nat → Nat), (∀ k, k ≤ n → f k < n) → ∃ a b, a < b ∧ b ≤ n ∧ f a = f b
  | 0, f, h => absurd (h 0 (Nat.le_refl _)) (Nat.not_lt_zero _)
  | n + 1, f, h => by
    by_cases e : ∃ a, a < n + 1 ∧ f a = f (n + 1)
    · obtain ⟨a, h1, h2⟩ := e
      exact ⟨a, n + 1, h1, Nat.le_refl _, h2⟩
    · have e' : ∀ a, a < n + 1 → f a ≠ f (n + 1) := fun a h1 h2 => e ⟨a, h1, h2⟩
      -- the value of the last one is put aside: n takes its place
      obtain ⟨a, b, h1, h2, h3⟩ := pigeon n (fun k => if f k = n then f (n + 1) else f k) (fun k hk => by
        have h1 := h k (by omega)
        have h2 := h (n + 1) (Nat.le_refl _)
        have h3 := e' k (by omega)
        show (if f k = n then f (n + 1) else f k) < n
        by_cases h4 : f k = n
        · rw [if_pos h4]; omega
        · rw [if_neg h4]; omega)
      refine ⟨a, b, h1, by omega, ?_⟩
      have ha := e' a (by omega)
      have hb := e' b (by omega)
      have h3 : (if f a = n then f (n + 1) else f a) = (if f b = n then f (n + 1) else f b) := h3
      by_cases h4 : f a = n
      · rw [if_pos h4] at h3
        by_cases h5 : f b = n
        · omega
        · rw [if_neg h5] at h3; exact absurd h3.symm hb
      · rw [if_neg h4] at h3
        by_cases h5 : f b = n
        · rw [if_pos h5] at h3; exact absurd h3 ha
        · rw [if_neg h5] at h3; exact h3
theorem nodup_le {xs : List Nat} {n : Nat} (h : xs.Nodup) (h' : ∀ x ∈ xs, x < n) : xs.length ≤ n := by
  by_cases e : xs.length ≤ n
  · exact e
  · exfalso
    obtain ⟨a, b, h1, h2, h3⟩ := pigeon n (fun k => xs.getD k 0) (fun k hk => by
      show xs.getD k 0 < n
      have hk' : k < xs.length := by omega
      rw [List.getD_eq_getElem?_getD, List.getElem?_eq_getElem hk']
      exact h' _ (List.getElem_mem hk'))
    have ha : a < xs.length := by omega
    have hb : b < xs.length := by omega
    have h3 : xs.getD a 0 = xs.getD b 0 := h3
    rw [List.getD_eq_getElem?_getD, List.getD_eq_getElem?_getD, List.getElem?_eq_getElem ha, List.getElem?_eq_getElem hb] at h3
    exact (List.pairwise_iff_getElem.1 h a b ha hb h1) h3
def it (f : Nat → Nat) : Nat → Nat → Nat
  | 0, x => x
  | k + 1, x => f (it f k x)
theorem it_add (f : Nat → Nat) (a b x : Nat) : it f (a + b) x = it f a (it f b x) := by
  induction a with
  | zero => rw [Nat.zero_add]; rfl
  | succ a ih => rw [Nat.succ_add]; show f _ = f _; rw [ih]
theorem it_f (f : Nat → Nat) (k x : Nat) : it f k (f x) = it f (k + 1) x := (it_add f k 1 x).symm
theorem it_lt {f : Nat → Nat} {n : Nat} (h : ∀ x, x < n → f x < n) {x : Nat} (hx : x < n) : ∀ k, it f k x < n
  | 0 => hx
  | k + 1 => h _ (it_lt h hx k)
def walkMin (f : Nat → Nat) : Nat → Nat → Nat → Nat
  | 0, _, m => m
  | k + 1, x, m => walkMin f k (f x) (if f x < m then f x else m)
theorem walkMin_le (f : Nat → Nat) : ∀ (k x m : Nat), walkMin f k x m ≤ m ∧ ∀ j, j < k → walkMin f k x m ≤ it f (j + 1) x
  | 0, x, m => ⟨Nat.le_refl _, fun j h => absurd h (Nat.not_lt_zero _)⟩
  | k + 1, x, m => by
    obtain ⟨h1, h2⟩ := walkMin_le f k (f x) (if f x < m then f x else m)
    have h3 : (if f x < m then f x else m) ≤ m ∧ (if f x < m then f x else m) ≤ f x := by
      by_cases h : f x < m
      · rw [if_pos h]; omega
      · rw [if_neg h]; omega
    refine ⟨Nat.le_trans h1 h3.1, fun j hj => ?_⟩
    cases j with
    | zero => exact Nat.le_trans h1 h3.2
    | succ j =>
      have := h2 j (by omega)
      rw [it_f] at this
      exact this
theorem walkMin_is (f : Nat → Nat) : ∀ (k x m : Nat), walkMin f k x m = m ∨ ∃ j, j < k ∧ walkMin f k x m = it f (j + 1) x
  | 0, x, m => .inl rfl
  | k + 1, x, m => by
    rcases walkMin_is f k (f x) (if f x < m then f x else m) with h | ⟨j, h1, h2⟩
    · by_cases h' : f x < m
      · right
        refine ⟨0, by omega, ?_⟩
        show walkMin f k (f x) _ = f x
        rw [h, if_pos h']
      · left
        show walkMin f k (f x) _ = m
        rw [h, if_neg h']
    · right
      refine ⟨j + 1, by omega, ?_⟩
      show walkMin f k (f x) _ = _
      rw [h2, it_f]
/-- the least state of the ring -/
def ringEnd (f : Nat → Nat) (n x : Nat) : Nat := walkMin f n (it f n x) (it f n x)
theorem ring_char (f : Nat → Nat) (n x : Nat) : (∃ j, n ≤ j ∧ j ≤ 2 * n ∧ ringEnd f n x = it f j x) ∧ ∀ j, n ≤ j → j ≤ 2 * n → ringEnd f n x ≤ it f j x := by
  constructor
  · rcases walkMin_is f n (it f n x) (it f n x) with h | ⟨j, h1, h2⟩
    · exact ⟨n, Nat.le_refl _, by omega, h⟩
    · refine ⟨j + 1 + n, by omega, by omega, ?_⟩
      rw [it_add]
      exact h2
  · intro j h1 h2
    obtain ⟨h3, h4⟩ := walkMin_le f n (it f n x) (it f n x)
    by_cases h : j = n
    · subst h; exact h3
    · have := h4 (j - n - 1) (by omega)
      rw [← it_add, show j - n - 1 + 1 + n = j by omega] at this
      exact this
theorem ring_still {f : Nat → Nat} {n : Nat} (h : ∀ x, x < n → f x < n) {x : Nat} (hx : x < n) : ringEnd f n (f x) = ringEnd f n x := by
  obtain ⟨a, b, h1, h2, h3⟩ := pigeon n (fun k => it f k x) (fun k _ => it_lt h hx k)
  have h3 : it f a x = it f b x := h3
  -- from a on, it comes again after b - a
  have hp : ∀ k, a ≤ k → it f (k + (b - a)) x = it f k x := fun k hk => by
    rw [show k + (b - a) = (k - a) + b by omega, it_add, ← h3, ← it_add, show k - a + a = k by omega]
  obtain ⟨⟨i, i1, i2, i3⟩, i4⟩ := ring_char f n (f x)
  obtain ⟨⟨j, j1, j2, j3⟩, j4⟩ := ring_char f n x
  apply Nat.le_antisymm
  · rw [j3]
    by_cases e : j = n
    · have := i4 (j + (b - a) - 1) (by omega) (by omega)
      rw [it_f, show j + (b - a) - 1 + 1 = j + (b - a) by omega, hp j (by omega)] at this
      exact this
    · have := i4 (j - 1) (by omega) (by omega)
      rw [it_f, show j - 1 + 1 = j by omega] at this
      exact this
  · rw [i3, it_f]
    by_cases e : i = 2 * n
    · have := j4 (i + 1 - (b - a)) (by omega) (by omega)
      have e2 := hp (i + 1 - (b - a)) (by omega)
      rw [show i + 1 - (b - a) + (b - a) = i + 1 by omega] at e2
      rw [← e2] at this
      exact this
    · exact j4 (i + 1) (by omega) (by omega)
end Bc

set_option linter.all false
set_option autoImplicit false
set_option maxRecDepth 100000
set_option maxHeartbeats 0
namespace K69
open PySem PySem.Spec L2 Bc
def top (i : Nat) : Stmt := PySem.Challenge.pw_bitcounts_k69_whole_machines_accepted.main.body.getD i (.Pass ⟨0, 0, 0, 0⟩)
def b6 : Ss := (.cons (.ret (.and (.isi (.var 0) [.int]) (.not (.isi (.var 0) [.bool])))) .nil)
def b7 : Ss := (.cons (.ret (.and (.isi (.var 0) [.str]) (.and (.cmp2 .Lt .LtE (.int 0) (.bi .len (.cons (.var 0) .nil)) (.glob (.int 8))) (.bi .all (.cons (.lc (.nm 1) .seq (.cons (.var 0) .nil) .nil (.cmp .In (.var 1) (.glob (.str "abcdefghijklmnopqrstuvwxyz"))) [1]) .nil))))) .nil)
def b8 : Ss := (.cons (.ite (.or (.not (.isi (.var 0) [.tuple])) (.or (.cmp .Gt (.bi .len (.cons (.var 0) .nil)) (.glob (.int 3))) (.not (.bi .all (.cons (.lc (.nm 2) .seq (.cons (.var 0) .nil) .nil (.call 1 (.cons (.var 2) .nil)) [2]) .nil))))) (.cons (.ret (.bl false)) .nil) .nil) (.cons (.ret (.bi .all (.cons (.lc (.nm 1) .range2 (.cons (.int 1) (.cons (.bi .len (.cons (.var 0) .nil)) .nil)) .nil (.cmp .Lt (.sub (.var 0) (.bin .Sub (.var 1) (.int 1))) (.sub (.var 0) (.var 1))) [1]) .nil))) .nil))
def b13 : Ss := (.cons (.asg (.nm 1) (.lst (.cons (.tup .nil) .nil))) (.cons (.loop (.nm 2) .range1 (.cons (.var 0) .nil) (.cons (.asg (.nm 1) (.lc2 (.nm 3) .seq (.cons (.var 1) .nil) .nil (.nm 4) .seq (.cons (.tup (.cons (.int 0) (.cons (.int 1) .nil))) .nil) .nil (.tup (.star (.var 3) (.cons (.var 4) .nil))) [3, 4] [4])) .nil)) (.cons (.ret (.var 1)) .nil)))
def b18 : Ss := (.cons (.ret (.sub (.lc (.nm 2) .range1 (.cons (.bi .len (.cons (.var 1) .nil)) .nil) (.cons (.cmp .Eq (.sub (.var 1) (.var 2)) (.var 0)) .nil) (.var 2) [2]) (.int 0))) .nil)
def b19 : Ss := (.cons (.asg (.nm 1) (.int 0)) (.cons (.loop (.nm 2) .seq (.cons (.var 0) .nil) (.cons (.asg (.nm 1) (.bin .Add (.bin .Mult (.int 2) (.var 1)) (.var 2))) .nil)) (.cons (.ret (.var 1)) .nil)))
def b20 : Ss := (.cons (.ret (.lc (.nm 2) .seq (.cons (.var 0) .nil) .nil (.bin .BitAnd (.bin .RShift (.var 2) (.var 1)) (.int 1)) [2])) .nil)
def b21 : Ss := (.cons (.asg (.nm 1) (.int 0)) (.cons (.loop (.nm 2) .seq (.cons (.var 0) .nil) (.cons (.asg (.nm 1) (.ite (.cmp .Lt (.bm .bitLength (.var 2) .nil) (.var 1)) (.var 1) (.bm .bitLength (.var 2) .nil))) .nil)) (.cons (.ret (.var 1)) .nil)))
def b25 : Ss := (.cons (.asg (.nm 1) (.lst .nil)) (.cons (.loop (.nm 2) .seq (.cons (.var 0) .nil) (.cons (.asg (.nm 1) (.bin .Add (.var 1) (.lc (.nm 3) .seq (.cons (.var 2) .nil) (.cons (.cmp .NotIn (.var 3) (.var 1)) .nil) (.var 3) [3]))) .nil)) (.cons (.ret (.bi .tuple (.cons (.bi .sorted (.cons (.lc (.nm 3) .seq (.cons (.var 1) .nil) .nil (.bi .str1 (.cons (.var 3) .nil)) [3]) .nil)) .nil))) .nil)))
def b29 : Ss := (.cons (.ret (.and (.call 0 (.cons (.var 0) .nil)) (.cmp2 .LtE .Lt (.int 0) (.var 0) (.var 1)))) .nil)
def b30 : Ss := (.cons (.loop (.nm 3) .seq (.cons (.var 0) .nil) (.cons (.ite (.or (.not (.isi (.var 3) [.tuple])) (.or (.cmp .NotEq (.bi .len (.cons (.var 3) .nil)) (.var 1)) (.not (.bi .all (.cons (.lc (.nm 4) .seq (.cons (.var 3) .nil) .nil (.call 9 (.cons (.var 4) (.cons (.var 2) .nil))) [4]) .nil))))) (.cons (.ret (.bl false)) .nil) .nil) .nil)) (.cons (.ret (.bl true)) .nil))
def b31 : Ss := (.cons (.ite (.or (.not (.isi (.var 0) [.tuple])) (.or (.cmp .NotEq (.bi .len (.cons (.var 0) .nil)) (.int 3)) (.not (.call 2 (.cons (.sub (.var 0) (.int 0)) .nil))))) (.cons (.ret (.bl false)) .nil) .nil) (.cons (.asg (.tp (.cons (.nm 1) (.cons (.nm 2) (.cons (.nm 3) .nil)))) (.var 0)) (.cons (.ite (.or (.not (.isi (.var 2) [.tuple])) (.not (.cmp2 .Lt .LtE (.int 0) (.bi .len (.cons (.var 2) .nil)) (.glob (.int 256))))) (.cons (.ret (.bl false)) .nil) .nil) (.cons (.ite (.not (.call 10 (.cons (.var 2) (.cons (.bi .len (.cons (.call 3 (.cons (.bi .len (.cons (.var 1) .nil)) .nil)) .nil)) (.cons (.bi .len (.cons (.var 2) .nil)) .nil))))) (.cons (.ret (.bl false)) .nil) .nil) (.cons (.ite (.or (.not (.isi (.var 3) [.tuple])) (.or (.cmp .NotEq (.bi .len (.cons (.var 3) .nil)) (.bi .len (.cons (.var 2) .nil))) (.not (.bi .all (.cons (.lc (.nm 5) .seq (.cons (.var 3) .nil) .nil (.isi (.var 5) [.bool]) [5]) .nil))))) (.cons (.ret (.bl false)) .nil) .nil) (.cons (.ret (.bi .all (.cons (.lc (.nm 4) .range1 (.cons (.bi .len (.cons (.var 2) .nil)) .nil) .nil (.cmp .Eq (.sub (.var 3) (.sub (.sub (.var 2) (.var 4)) (.int 0))) (.sub (.var 3) (.var 4))) [4]) .nil))) .nil))))))
def b32 : Ss := (.cons (.asg (.nm 4) (.lc (.nm 5) .seq (.cons (.sub (.var 0) (.int 0)) .nil) .nil (.sub (.var 3) (.call 4 (.cons (.var 5) (.cons (.var 2) .nil)))) [5])) (.cons (.ret (.sub (.sub (.sub (.var 0) (.int 1)) (.var 1)) (.call 5 (.cons (.var 4) .nil)))) .nil))
def b33 : Ss := (.cons (.asg (.nm 3) (.int 0)) (.cons (.loop (.nm 4) .range1 (.cons (.call 7 (.cons (.var 2) .nil)) .nil) (.cons (.asg (.nm 3) (.call 12 (.cons (.var 0) (.cons (.var 3) (.cons (.var 1) (.cons (.call 6 (.cons (.var 2) (.cons (.var 4) .nil))) .nil)))))) .nil)) (.cons (.ret (.sub (.sub (.var 0) (.int 2)) (.var 3))) .nil)))
def b34 : Ss := (.cons (.ite (.or (.not (.isi (.var 0) [.tuple])) (.not (.cmp2 .Lt .LtE (.int 0) (.bi .len (.cons (.var 0) .nil)) (.glob (.int 4096))))) (.cons (.ret (.bl false)) .nil) .nil) (.cons (.loop (.nm 3) .seq (.cons (.var 0) .nil) (.cons (.ite (.or (.not (.isi (.var 3) [.tuple])) (.cmp .NotEq (.bi .len (.cons (.var 3) .nil)) (.int 2))) (.cons (.ret (.bl false)) .nil) .nil) (.cons (.ite (.or (.not (.call 9 (.cons (.sub (.var 3) (.int 0)) (.cons (.bi .len (.cons (.sub (.var 1) (.int 1)) .nil)) .nil)))) (.not (.call 9 (.cons (.sub (.var 3) (.int 1)) (.cons (.bi .len (.cons (.sub (.var 2) (.int 1)) .nil)) .nil))))) (.cons (.ret (.bl false)) .nil) .nil) .nil))) (.cons (.ret (.and (.cmp .Eq (.sub (.var 0) (.int 0)) (.tup (.cons (.int 0) (.cons (.int 0) .nil)))) (.bi .all (.cons (.lc (.nm 4) .range2 (.cons (.int 1) (.cons (.bi .len (.cons (.var 0) .nil)) .nil)) .nil (.cmp .Lt (.sub (.var 0) (.bin .Sub (.var 4) (.int 1))) (.sub (.var 0) (.var 4))) [4]) .nil)))) .nil)))
def b35 : Ss := (.cons (.asg (.nm 4) (.dcT (.nm 9) .seq (.cons (.var 0) .nil) .nil (.var 9) (.bl true) [9])) (.cons (.asg (.nm 5) (.call 3 (.cons (.bi .len (.cons (.var 3) .nil)) .nil))) (.cons (.loop (.tp (.cons (.nm 6) (.cons (.nm 7) .nil))) .seq (.cons (.var 0) .nil) (.cons (.ite (.and (.sub (.sub (.var 1) (.int 2)) (.var 6)) (.not (.sub (.sub (.var 2) (.int 2)) (.var 7)))) (.cons (.ret (.bl false)) .nil) .nil) (.cons (.loop (.nm 8) .seq (.cons (.var 5) .nil) (.cons (.ite (.cmp .NotIn (.tup (.cons (.call 12 (.cons (.var 1) (.cons (.var 6) (.cons (.var 3) (.cons (.var 8) .nil))))) (.cons (.call 12 (.cons (.var 2) (.cons (.var 7) (.cons (.var 3) (.cons (.var 8) .nil))))) .nil))) (.var 4)) (.cons (.ret (.bl false)) .nil) .nil) .nil)) .nil))) (.cons (.ret (.bl true)) .nil))))
def b49 : Ss := (.cons (.ite (.or (.not (.isi (.var 0) [.tuple])) (.or (.cmp .Eq (.bi .len (.cons (.var 0) .nil)) (.int 0)) (.not (.isi (.sub (.var 0) (.int 0)) [.str])))) (.cons (.ret (.bl false)) .nil) .nil) (.cons (.ite (.cmp .NotEq (.bi .len (.cons (.var 0) .nil)) (.kget "LENGTHS" (.sub (.var 0) (.int 0)) (.int 0))) (.cons (.ret (.bl false)) .nil) .nil) (.cons (.ite (.cmp .Eq (.sub (.var 0) (.int 0)) (.str "relation")) (.cons .nev .nil) .nil) (.cons (.ite (.cmp .In (.sub (.var 0) (.int 0)) (.tup (.cons (.str "within") (.cons (.str "outside") .nil)))) (.cons (.ret (.call 20 (.cons (.var 0) (.cons (.var 1) .nil)))) .nil) .nil) (.cons .nev .nil)))))
def b50 : Ss := (.cons (.ret (.and (.isi (.var 0) [.tuple]) (.cmp .Eq (.bi .len (.cons (.var 0) .nil)) (.int 0)))) .nil)
def b51 : Ss := (.cons (.ite (.or (.not (.isi (.var 0) [.tuple])) (.or (.cmp .NotEq (.bi .len (.cons (.var 0) .nil)) (.int 2)) (.or (.not (.isi (.sub (.var 0) (.int 0)) [.str])) (.cmp .NotEq (.sub (.var 0) (.int 0)) (.var 1))))) (.cons (.ret (.bl false)) .nil) .nil) (.cons (.ret (.and (.call 0 (.cons (.sub (.var 0) (.int 1)) .nil)) (.cmp .GtE (.sub (.var 0) (.int 1)) (.int 0)))) .nil))
def b52 : Ss := (.cons (.ite (.or (.not (.isi (.var 0) [.tuple])) (.cmp .NotEq (.bi .len (.cons (.var 0) .nil)) (.bi .len (.cons (.var 1) .nil)))) (.cons (.ret (.bl false)) .nil) .nil) (.cons (.ret (.bi .all (.cons (.lc (.tp (.cons (.nm 2) (.cons (.nm 3) .nil))) .zip (.cons (.var 0) (.cons (.var 1) .nil)) .nil (.call 18 (.cons (.var 2) (.cons (.var 3) .nil))) [2, 3]) .nil))) .nil))
def b57 : Ss := (.cons (.ite (.or (.not (.call 11 (.cons (.sub (.var 0) (.int 1)) .nil))) (.not (.call 11 (.cons (.sub (.var 0) (.int 2)) .nil)))) (.cons (.ret (.bl false)) .nil) .nil) (.cons (.asg (.nm 2) (.call 8 (.cons (.lst (.cons (.sub (.sub (.var 0) (.int 1)) (.int 0)) (.cons (.sub (.sub (.var 0) (.int 2)) (.int 0)) .nil))) .nil))) (.cons (.ite (.cmp .Gt (.bi .len (.cons (.var 2) .nil)) (.glob (.int 3))) (.cons (.ret (.bl false)) .nil) .nil) (.cons (.ite (.cmp .Eq (.sub (.var 0) (.int 0)) (.str "within")) (.cons (.ret (.and (.call 14 (.cons (.var 1) (.cons (.sub (.var 0) (.int 1)) (.cons (.sub (.var 0) (.int 2)) .nil)))) (.call 15 (.cons (.var 1) (.cons (.sub (.var 0) (.int 1)) (.cons (.sub (.var 0) (.int 2)) (.cons (.var 2) .nil))))))) .nil) .nil) (.cons (.ite (.or (.not (.call 17 (.cons (.var 1) .nil))) (.not (.call 19 (.cons (.sub (.var 0) (.int 3)) (.cons (.var 2) .nil))))) (.cons (.ret (.bl false)) .nil) .nil) (.cons (.asg (.nm 3) (.bi .tuple (.cons (.lc (.tp (.cons (.nm 4) (.cons (.nm 5) .nil))) .seq (.cons (.sub (.var 0) (.int 3)) .nil) .nil (.var 5) [4, 5]) .nil))) (.cons (.ret (.and (.call 13 (.cons (.sub (.var 0) (.int 1)) (.cons (.var 2) (.cons (.var 3) .nil)))) (.not (.call 13 (.cons (.sub (.var 0) (.int 2)) (.cons (.var 2) (.cons (.var 3) .nil))))))) .nil)))))))
def b59 : Ss := (.cons (.ite (.cmp .Lt (.var 1) (.bi .len (.cons (.var 0) .nil))) (.cons (.ret (.bi .int1 (.cons (.sub (.var 0) (.var 1)) .nil))) .nil) .nil) (.cons (.asg (.nm 2) (.bin .Mod (.bi .int1 (.cons (.bin .Mult (.int 68927) (.bin .Add (.bin .Add (.bin .Mult (.var 1) (.var 1)) (.bin .Mult (.int 17) (.var 1))) (.int 3))) .nil)) (.int 2147483563))) (.cons (.loop (.nm 3) .seq (.cons (.slice (.var 0) .no (.ex (.int 3))) .nil) (.cons (.asg (.nm 2) (.bin .Mod (.bi .int1 (.cons (.bin .Add (.bin .Mult (.var 2) (.int 52361)) (.bi .int1 (.cons (.var 3) .nil))) .nil)) (.int 2147483563))) .nil)) (.cons (.ret (.var 2)) .nil))))
def b60 : Ss := (.cons (.asg (.nm 1) (.ite (.or (.cmp .Lt (.var 0) (.int 0)) (.cmp .GtE (.var 0) (.bin .Pow (.int 10) (.int 18)))) (.bi .abs (.cons (.bi .int1 (.cons (.var 0) .nil)) .nil)) (.int 0))) (.cons (.retLoc (.cons (.bin .Mod (.bi .int1 (.cons (.var 0) .nil)) (.int 2147483563)) (.cons (.var 1) (.cons (.int 0) .nil)))) .nil))
def b61 : Ss := (.cons (.asg (.sub (.var 0) (.int 2)) (.bin .Add (.sub (.var 0) (.int 2)) (.int 1))) (.cons (.asg (.nm 2) (.bi .int1 (.cons (.sub (.var 0) (.int 0)) .nil))) (.cons (.asg (.sub (.var 0) (.int 0)) (.bin .Mod (.bi .int1 (.cons (.bin .Add (.bin .Add (.bin .Mult (.var 2) (.bin .Add (.bin .Mod (.var 2) (.int 28657)) (.int 46337))) (.bin .Mult (.int 75011) (.sub (.var 0) (.int 2)))) (.int 29)) .nil)) (.int 2147483563))) (.cons (.ite (.cmp .Gt (.sub (.var 0) (.int 1)) (.int 0)) (.cons (.asg (.tp (.cons (.sub (.var 0) (.int 1)) (.cons (.nm 3) .nil))) (.bi .divmod (.cons (.bi .int1 (.cons (.sub (.var 0) (.int 1)) .nil)) (.cons (.var 1) .nil)))) (.cons (.ret (.var 3)) .nil)) .nil) (.cons (.ret (.bin .Mod (.bin .FloorDiv (.bi .int1 (.cons (.sub (.var 0) (.int 0)) .nil)) (.int 64)) (.var 1))) .nil)))))
def b62 : Ss := (.cons (.ret (.sub (.var 1) (.call 23 (.cons (.var 0) (.cons (.bi .len (.cons (.var 1) .nil)) .nil))))) .nil)
def b63 : Ss := (.cons (.asg (.nm 1) (.str "")) (.cons (.loop (.nm 2) .range1 (.cons (.bin .Add (.int 1) (.call 23 (.cons (.var 0) (.cons (.int 8) .nil)))) .nil) (.cons (.asg (.nm 1) (.bin .Add (.var 1) (.sub (.str "abcdefghijklmnopqrstuvwxyz") (.call 23 (.cons (.var 0) (.cons (.int 26) .nil)))))) .nil)) (.cons (.ret (.var 1)) .nil)))
def b64 : Ss := (.cons (.asg (.tp (.cons (.nm 1) (.cons (.nm 2) .nil))) (.tup (.cons (.call 25 (.cons (.var 0) .nil)) (.cons (.call 25 (.cons (.var 0) .nil)) .nil)))) (.cons (.ite (.cmp .Eq (.var 1) (.var 2)) (.cons (.asg (.nm 2) (.ite (.cmp .NotEq (.var 1) (.str "a")) (.str "a") (.str "b"))) .nil) .nil) (.cons (.ret (.tup (.cons (.var 1) (.cons (.var 2) .nil)))) .nil)))
def b65 : Ss := (.cons (.ret (.ite (.var 1) (.cmp .Is (.var 0) (.bl true)) (.cmp .Is (.var 0) (.bl false)))) .nil)
def b66 : Ss := (.cons (.asg (.nm 1) (.lst (.cons (.tup .nil) .nil))) (.cons (.loop (.nm 2) .range1 (.cons (.var 0) .nil) (.cons (.asg (.nm 3) (.lst .nil)) (.cons (.loop (.nm 4) .seq (.cons (.var 1) .nil) (.cons (.asg (.nm 3) (.bin .Add (.var 3) (.lst (.cons (.bin .Add (.var 4) (.tup (.cons (.int 0) .nil))) (.cons (.bin .Add (.var 4) (.tup (.cons (.int 1) .nil))) .nil))))) .nil)) (.cons (.asg (.nm 1) (.var 3)) .nil)))) (.cons (.ret (.var 1)) .nil)))
def b67 : Ss := (.cons (.asg (.nm 2) (.var 1)) (.cons (.loop (.nm 3) .range1 (.cons (.bi .len (.cons (.var 0) .nil)) .nil) (.cons (.asg (.nm 2) (.sub (.sub (.var 0) (.var 2)) (.int 0))) .nil)) (.cons (.asg (.nm 4) (.var 2)) (.cons (.loop (.nm 3) .range1 (.cons (.bi .len (.cons (.var 0) .nil)) .nil) (.cons (.asg (.nm 2) (.sub (.sub (.var 0) (.var 2)) (.int 0))) (.cons (.asg (.nm 4) (.ite (.cmp .Lt (.var 2) (.var 4)) (.var 2) (.var 4))) .nil))) (.cons (.ret (.var 4)) .nil)))))
def b68 : Ss := (.cons (.asg (.tp (.cons (.nm 4) (.cons (.nm 5) .nil))) (.tup (.cons (.bin .Add (.int 1) (.call 23 (.cons (.var 0) (.cons (.int 6) .nil)))) (.cons (.bi .len (.cons (.call 28 (.cons (.bi .len (.cons (.var 1) .nil)) .nil)) .nil)) .nil)))) (.cons (.asg (.nm 2) (.bi .tuple (.cons (.lc (.nm 6) .range1 (.cons (.var 4) .nil) .nil (.bi .tuple (.cons (.lc (.nm 7) .range1 (.cons (.var 5) .nil) .nil (.call 23 (.cons (.var 0) (.cons (.var 4) .nil))) [7]) .nil)) [6]) .nil))) (.cons (.asg (.nm 3) (.lc (.nm 6) .range1 (.cons (.var 4) .nil) .nil (.cmp .Eq (.call 23 (.cons (.var 0) (.cons (.int 3) .nil))) (.int 0)) [6])) (.cons (.ret (.tup (.cons (.bi .tuple (.cons (.var 1) .nil)) (.cons (.var 2) (.cons (.bi .tuple (.cons (.lc (.nm 6) .range1 (.cons (.var 4) .nil) .nil (.sub (.var 3) (.call 29 (.cons (.var 2) (.cons (.var 6) .nil)))) [6]) .nil)) .nil))))) .nil))))
def b69 : Ss := (.cons (.asg (.tp (.cons (.nm 4) (.cons (.nm 5) (.cons (.nm 6) .nil)))) (.var 1)) (.cons (.asg (.nm 2) (.lc (.nm 7) .range1 (.cons (.bi .len (.cons (.var 5) .nil)) .nil) .nil (.cmp .Eq (.call 23 (.cons (.var 0) (.cons (.int 3) .nil))) (.int 0)) [7])) (.cons (.asg (.nm 3) (.lc (.nm 7) .range1 (.cons (.bi .len (.cons (.var 5) .nil)) .nil) .nil (.call 29 (.cons (.var 5) (.cons (.var 7) .nil))) [7])) (.cons (.ret (.tup (.cons (.var 4) (.cons (.var 5) (.cons (.bi .tuple (.cons (.lc (.nm 7) .range1 (.cons (.bi .len (.cons (.var 5) .nil)) .nil) .nil (.or (.sub (.var 6) (.var 7)) (.sub (.var 2) (.sub (.var 3) (.var 7)))) [7]) .nil)) .nil))))) .nil))))
def b70 : Ss := (.cons (.asg (.nm 4) (.int 0)) (.cons (.loop (.nm 5) .seq (.cons (.sub (.var 0) (.int 0)) .nil) (.cons (.asg (.nm 4) (.bin .Add (.bin .Mult (.int 2) (.var 4)) (.sub (.var 3) (.bm .index (.bi .list (.cons (.var 2) .nil)) (.cons (.var 5) .nil))))) .nil)) (.cons (.ret (.sub (.sub (.sub (.var 0) (.int 1)) (.var 1)) (.var 4))) .nil)))
def b71 : Ss := (.cons (.ret (.lc (.nm 4) .seq (.cons (.call 28 (.cons (.bi .len (.cons (.var 2) .nil)) .nil)) .nil) .nil (.tup (.cons (.call 32 (.cons (.var 0) (.cons (.sub (.var 3) (.int 0)) (.cons (.var 2) (.cons (.var 4) .nil))))) (.cons (.call 32 (.cons (.var 1) (.cons (.sub (.var 3) (.int 1)) (.cons (.var 2) (.cons (.var 4) .nil))))) .nil))) [4])) .nil)
def b72 : Ss := (.cons (.asg (.tp (.cons (.nm 3) (.cons (.nm 4) .nil))) (.tup (.cons (.lst (.cons (.tup (.cons (.int 0) (.cons (.int 0) .nil))) .nil)) (.cons (.lst (.cons (.tup (.cons (.int 0) (.cons (.int 0) .nil))) .nil)) .nil)))) (.cons (.whil (.cmp .NotEq (.var 4) (.lst .nil)) (.cons (.asg (.tp (.cons (.nm 6) (.cons (.nm 4) .nil))) (.tup (.cons (.sub (.var 4) (.int 0)) (.cons (.slice (.var 4) (.ex (.int 1)) .no) .nil)))) (.cons (.loop (.nm 5) .seq (.cons (.call 33 (.cons (.var 0) (.cons (.var 1) (.cons (.var 2) (.cons (.var 6) .nil))))) .nil) (.cons (.ite (.cmp .NotIn (.var 5) (.var 3)) (.cons (.asg (.tp (.cons (.nm 3) (.cons (.nm 4) .nil))) (.tup (.cons (.bin .Add (.var 3) (.lst (.cons (.var 5) .nil))) (.cons (.bin .Add (.var 4) (.lst (.cons (.var 5) .nil))) .nil)))) .nil) .nil) .nil)) .nil))) (.cons (.ret (.var 3)) .nil)))
def b73 : Ss := (.cons (.asg (.nm 1) (.bi .sorted (.cons (.lc (.nm 2) .seq (.cons (.var 0) .nil) .nil (.bi .int1 (.cons (.bin .Add (.bin .Mult (.int 6) (.sub (.var 2) (.int 0))) (.sub (.var 2) (.int 1))) .nil)) [2]) .nil))) (.cons (.ret (.bi .tuple (.cons (.lc (.nm 3) .seq (.cons (.var 1) .nil) .nil (.tup (.cons (.bin .FloorDiv (.var 3) (.int 6)) (.cons (.bin .Mod (.bi .int1 (.cons (.var 3) .nil)) (.int 6)) .nil))) [3]) .nil))) .nil))
def b74 : Ss := (.cons (.ret (.not (.bi .any (.cons (.lc (.tp (.cons (.nm 3) (.cons (.nm 4) .nil))) .seq (.cons (.var 2) .nil) .nil (.and (.sub (.sub (.var 0) (.int 2)) (.var 3)) (.not (.sub (.sub (.var 1) (.int 2)) (.var 4)))) [3, 4]) .nil)))) .nil)
def b75 : Ss := (.cons (.asg (.tp (.cons (.nm 3) (.cons (.nm 4) .nil))) (.tup (.cons (.int 0) (.cons (.bi .list (.cons (.var 2) .nil)) .nil)))) (.cons (.whil (.bi .any (.cons (.lc (.nm 5) .seq (.cons (.var 4) .nil) .nil (.cmp .Gt (.var 5) (.int 0)) [5]) .nil)) (.cons (.asg (.nm 3) (.call 32 (.cons (.var 0) (.cons (.var 3) (.cons (.var 1) (.cons (.lc (.nm 5) .seq (.cons (.var 4) .nil) .nil (.bin .Mod (.bi .int1 (.cons (.var 5) .nil)) (.int 2)) [5]) .nil)))))) (.cons (.asg (.nm 4) (.lc (.nm 5) .seq (.cons (.var 4) .nil) .nil (.bin .FloorDiv (.var 5) (.int 2)) [5])) .nil))) (.cons (.ret (.sub (.sub (.var 0) (.int 2)) (.var 3))) .nil)))
def b76 : Ss := (.cons (.asg (.tp (.cons (.nm 10) (.cons (.nm 11) .nil))) (.tup (.cons (.call 34 (.cons (.var 1) (.cons (.var 2) (.cons (.var 3) .nil)))) (.cons (.tup (.cons (.str "within") (.cons (.var 1) (.cons (.var 2) .nil)))) .nil)))) (.cons (.asg (.tp (.cons (.nm 12) (.cons (.nm 13) .nil))) (.tup (.cons (.call 36 (.cons (.var 1) (.cons (.var 2) (.cons (.var 10) .nil)))) (.cons (.call 35 (.cons (.var 10) .nil)) .nil)))) (.cons (.ite (.not (.call 27 (.cons (.call 16 (.cons (.var 11) (.cons (.var 13) .nil))) (.cons (.var 12) .nil)))) (.cons (.ret (.bl false)) .nil) .nil) (.cons (.asg (.nm 4) (.call 23 (.cons (.var 0) (.cons (.bi .len (.cons (.var 13) .nil)) .nil)))) (.cons (.asg (.nm 5) (.tup (.cons (.call 23 (.cons (.var 0) (.cons (.bi .len (.cons (.sub (.var 1) (.int 1)) .nil)) .nil))) (.cons (.call 23 (.cons (.var 0) (.cons (.bi .len (.cons (.sub (.var 2) (.int 1)) .nil)) .nil))) .nil)))) (.cons (.asg (.nm 6) (.ite (.cmp .NotIn (.var 5) (.var 10)) (.call 35 (.cons (.bin .Add (.var 10) (.lst (.cons (.var 5) .nil))) .nil)) (.var 13))) (.cons (.asg (.nm 7) (.bi .all (.cons (.lc (.nm 14) .seq (.cons (.call 33 (.cons (.var 1) (.cons (.var 2) (.cons (.var 3) (.cons (.var 5) .nil))))) .nil) .nil (.cmp .In (.var 14) (.var 6)) [14]) .nil))) (.cons (.ite (.not (.call 27 (.cons (.call 16 (.cons (.var 11) (.cons (.var 6) .nil))) (.cons (.and (.var 7) (.call 36 (.cons (.var 1) (.cons (.var 2) (.cons (.var 6) .nil))))) .nil)))) (.cons (.ret (.bl false)) .nil) .nil) (.cons (.asgOwn 8 (.lst (.cons (.bi .list (.cons (.var 13) .nil)) (.cons .non (.cons (.tup .nil) (.cons (.bin .Add (.var 13) (.slice (.var 13) (.ex (.neg (.int 1))) .no)) (.cons (.ite (.cmp .Gt (.bi .len (.cons (.var 13) .nil)) (.int 1)) (.bin .Add (.slice (.var 13) (.ex (.int 1)) .no) (.slice (.var 13) .no (.ex (.int 1)))) (.int 0)) (.cons (.tup (.cons (.var 13) .nil)) .nil)))))))) (.cons (.loop (.nm 9) .seq (.cons (.lst (.cons (.bi .list (.cons (.sub (.var 13) (.var 4)) .nil)) (.cons (.tup (.cons (.sub (.sub (.var 13) (.var 4)) (.int 0)) (.cons (.bl true) .nil))) (.cons (.bin .Add (.sub (.var 13) (.var 4)) (.tup (.cons (.int 0) .nil))) (.cons (.tup (.cons (.neg (.int 1)) (.cons (.int 0) .nil))) (.cons .non (.cons (.tup (.cons (.int 0) .nil)) .nil))))))) .nil) (.cons (.app 8 (.bin .Add (.bin .Add (.slice (.var 13) .no (.ex (.var 4))) (.tup (.cons (.var 9) .nil))) (.slice (.var 13) (.ex (.bin .Add (.var 4) (.int 1))) .no))) .nil)) (.cons (.asg (.nm 8) (.bin .Add (.own 8) (.lst (.cons (.bin .Add (.var 13) (.tup (.cons (.tup (.cons (.int 7) (.cons (.int 0) .nil))) .nil))) (.cons (.bin .Add (.var 13) (.tup (.cons (.tup (.cons (.int 0) .nil)) .nil))) (.cons (.bin .Add (.slice (.var 13) .no (.ex (.var 4))) (.slice (.var 13) (.ex (.bin .Add (.var 4) (.int 1))) .no)) .nil)))))) (.cons (.ret (.not (.bi .any (.cons (.lc (.nm 15) .seq (.cons (.var 8) .nil) .nil (.call 16 (.cons (.var 11) (.cons (.var 15) .nil))) [15]) .nil)))) .nil))))))))))))
def b77 : Ss := (.cons (.loop (.nm 4) .range1 (.cons (.int 4) .nil) (.cons (.asg (.nm 5) (.call 24 (.cons (.var 0) (.cons (.lst (.cons (.int 2) (.cons (.int 8) (.cons (.int 60) (.cons (.bin .Pow (.int 10) (.int 40)) .nil))))) .nil)))) (.cons (.asg (.nm 6) (.lc (.nm 10) .seq (.cons (.var 3) .nil) .nil (.call 23 (.cons (.var 0) (.cons (.var 5) .nil))) [10])) (.cons (.asg (.nm 7) (.bi .tuple (.cons (.lc (.nm 11) .range1 (.cons (.bi .len (.cons (.var 3) .nil)) .nil) .nil (.tup (.cons (.sub (.var 3) (.var 11)) (.cons (.sub (.var 6) (.var 11)) .nil))) [11]) .nil))) (.cons (.asg (.nm 8) (.and (.call 37 (.cons (.var 1) (.cons (.var 3) (.cons (.var 6) .nil)))) (.not (.call 37 (.cons (.var 2) (.cons (.var 3) (.cons (.var 6) .nil))))))) (.cons (.ite (.not (.call 27 (.cons (.call 16 (.cons (.tup (.cons (.str "outside") (.cons (.var 1) (.cons (.var 2) (.cons (.var 7) .nil))))) (.cons (.tup .nil) .nil))) (.cons (.var 8) .nil)))) (.cons (.ret (.bl false)) .nil) .nil) (.cons (.asg (.nm 9) (.lst (.cons (.slice (.var 7) .no (.ex (.neg (.int 1)))) (.cons (.bin .Add (.var 7) (.slice (.var 7) (.ex (.neg (.int 1))) .no)) (.cons (.bi .list (.cons (.var 7) .nil)) (.cons (.tup .nil) (.cons (.bin .Add (.tup (.cons (.tup (.cons (.str "") (.cons (.int 0) .nil))) .nil)) (.slice (.var 7) (.ex (.int 1)) .no)) (.cons (.bin .Add (.slice (.var 7) .no (.ex (.neg (.int 1)))) (.tup (.cons (.tup (.cons (.sub (.var 3) (.neg (.int 1))) (.cons (.neg (.int 1)) .nil))) .nil))) .nil)))))))) (.cons (.ite (.bi .any (.cons (.lc (.nm 12) .seq (.cons (.var 9) .nil) .nil (.call 16 (.cons (.tup (.cons (.str "outside") (.cons (.var 1) (.cons (.var 2) (.cons (.var 12) .nil))))) (.cons (.tup .nil) .nil))) [12]) .nil)) (.cons (.ret (.bl false)) .nil) .nil) (.cons (.ite (.bi .any (.cons (.lc (.nm 12) .seq (.cons (.lst (.cons .non (.cons (.lst .nil) (.cons (.tup (.cons (.tup (.cons (.int 0) (.cons (.int 0) .nil))) .nil)) (.cons (.tup (.cons (.tup .nil) .nil)) .nil))))) .nil) .nil (.call 16 (.cons (.tup (.cons (.str "outside") (.cons (.var 1) (.cons (.var 2) (.cons (.var 7) .nil))))) (.cons (.var 12) .nil))) [12]) .nil)) (.cons (.ret (.bl false)) .nil) .nil) .nil))))))))) (.cons (.ret (.bl true)) .nil))
def b78 : Ss := (.cons (.asg (.tp (.cons (.nm 2) (.cons (.nm 3) (.cons (.nm 4) .nil)))) (.var 1)) (.cons (.asg (.tp (.cons (.nm 5) (.cons (.nm 6) (.cons (.nm 7) .nil)))) (.tup (.cons (.call 23 (.cons (.var 0) (.cons (.bi .len (.cons (.var 3) .nil)) .nil))) (.cons (.call 23 (.cons (.var 0) (.cons (.int 5) .nil))) (.cons (.bi .len (.cons (.var 3) .nil)) .nil))))) (.cons (.ite (.cmp .Eq (.var 6) (.int 0)) (.cons (.ret (.tup (.cons (.call 24 (.cons (.var 0) (.cons (.lst (.cons (.bin .Add (.var 2) (.var 2)) (.cons (.bi .list (.cons (.var 2) .nil)) (.cons .non (.cons (.bin .Mult (.tup (.cons (.str "A") .nil)) (.bi .len (.cons (.var 2) .nil))) (.cons (.tup .nil) (.cons (.tup (.cons (.int 3) .nil)) .nil))))))) .nil))) (.cons (.var 3) (.cons (.var 4) .nil))))) .nil) .nil) (.cons (.ite (.cmp .Eq (.var 6) (.int 1)) (.cons (.asg (.nm 8) (.sub (.var 3) (.var 5))) (.cons (.asg (.nm 9) (.lst (.cons (.slice (.var 8) .no (.ex (.neg (.int 1)))) (.cons (.bin .Add (.var 8) (.tup (.cons (.int 0) .nil))) (.cons (.bi .list (.cons (.var 8) .nil)) (.cons .non (.cons (.bin .Mult (.tup (.cons (.var 7) .nil)) (.bi .len (.cons (.var 8) .nil))) (.cons (.bin .Add (.tup (.cons (.neg (.int 1)) .nil)) (.slice (.var 8) (.ex (.int 1)) .no)) .nil)))))))) (.cons (.asg (.nm 9) (.bin .Add (.var 9) (.lst (.cons (.bin .Add (.slice (.var 8) .no (.ex (.neg (.int 1)))) (.tup (.cons .non .nil))) (.cons (.bin .Add (.slice (.var 8) .no (.ex (.neg (.int 1)))) (.tup (.cons (.bl false) .nil))) .nil))))) (.cons (.ret (.tup (.cons (.var 2) (.cons (.bin .Add (.bin .Add (.slice (.var 3) .no (.ex (.var 5))) (.tup (.cons (.call 24 (.cons (.var 0) (.cons (.var 9) .nil))) .nil))) (.slice (.var 3) (.ex (.bin .Add (.var 5) (.int 1))) .no)) (.cons (.var 4) .nil))))) .nil)))) .nil) (.cons (.ite (.cmp .Eq (.var 6) (.int 2)) (.cons (.ret (.tup (.cons (.var 2) (.cons (.call 24 (.cons (.var 0) (.cons (.lst (.cons (.slice (.var 3) .no (.ex (.neg (.int 1)))) (.cons (.bin .Add (.var 3) (.slice (.var 3) .no (.ex (.int 1)))) (.cons (.bi .list (.cons (.var 3) .nil)) (.cons .non (.cons (.tup .nil) .nil)))))) .nil))) (.cons (.var 4) .nil))))) .nil) .nil) (.cons (.ite (.cmp .Eq (.var 6) (.int 3)) (.cons (.asg (.nm 9) (.lst (.cons (.bin .Add (.bin .Add (.slice (.var 4) .no (.ex (.var 5))) (.tup (.cons (.call 24 (.cons (.var 0) (.cons (.lst (.cons (.int 0) (.cons (.int 1) (.cons .non (.cons (.str "") (.cons (.lst .nil) .nil)))))) .nil))) .nil))) (.slice (.var 4) (.ex (.bin .Add (.var 5) (.int 1))) .no)) (.cons (.bin .Add (.var 4) (.tup (.cons (.bl true) .nil))) (.cons (.bi .list (.cons (.var 4) .nil)) .nil))))) (.cons (.ret (.tup (.cons (.var 2) (.cons (.var 3) (.cons (.call 24 (.cons (.var 0) (.cons (.bin .Add (.var 9) (.lst (.cons (.slice (.var 4) .no (.ex (.neg (.int 1)))) (.cons .non (.cons (.tup .nil) .nil))))) .nil))) .nil))))) .nil)) .nil) (.cons (.ret (.call 24 (.cons (.var 0) (.cons (.lst (.cons (.bi .list (.cons (.var 1) .nil)) (.cons (.slice (.var 1) .no (.ex (.int 2))) (.cons (.bin .Add (.var 1) (.tup (.cons (.int 0) .nil))) (.cons .non (.cons (.tup .nil) (.cons (.str "machine") .nil))))))) .nil)))) .nil)))))))
def b79 : Ss := (.cons (.asg (.tp (.cons (.nm 3) (.cons (.nm 4) (.cons (.nm 5) .nil)))) (.var 0)) (.cons (.asg (.nm 1) (.lc (.nm 6) .range1 (.cons (.bi .len (.cons (.var 4) .nil)) .nil) (.cons (.cmp .NotEq (.sub (.sub (.var 4) (.var 6)) (.int 0)) (.var 6)) .nil) (.var 6) [6])) (.cons (.ite (.cmp .Eq (.var 1) (.lst .nil)) (.cons (.ret .non) .nil) .nil) (.cons (.asg (.nm 2) (.sub (.var 1) (.int 0))) (.cons (.ret (.tup (.cons (.var 3) (.cons (.var 4) (.cons (.bin .Add (.bin .Add (.slice (.var 5) .no (.ex (.var 2))) (.tup (.cons (.not (.sub (.var 5) (.var 2))) .nil))) (.slice (.var 5) (.ex (.bin .Add (.var 2) (.int 1))) .no)) .nil))))) .nil)))))
def b80 : Ss := (.cons (.asg (.nm 4) (.call 35 (.cons (.call 34 (.cons (.var 1) (.cons (.var 1) (.cons (.bi .list (.cons (.sub (.var 1) (.int 0)) .nil)) .nil)))) .nil))) (.cons (.ite (.cmp .IsNot (.call 16 (.cons (.tup (.cons (.str "within") (.cons (.var 1) (.cons (.var 1) .nil)))) (.cons (.var 4) .nil))) (.bl true)) (.cons (.ret (.bl false)) .nil) .nil) (.cons (.asg (.nm 5) (.lst (.cons (.call 40 (.cons (.var 0) (.cons (.var 1) .nil))) (.cons (.call 41 (.cons (.var 1) .nil)) .nil)))) (.cons (.loop (.nm 6) .seq (.cons (.lc (.nm 9) .seq (.cons (.var 5) .nil) (.cons (.cmp .IsNot (.var 9) .non) .nil) (.var 9) [9]) .nil) (.cons (.asg (.nm 7) (.bi .tuple (.cons (.lc (.nm 10) .seq (.cons (.var 3) .nil) .nil (.tup (.cons (.var 10) (.cons (.int 3) .nil))) [10]) .nil))) (.cons (.asg (.nm 8) (.lst (.cons (.call 16 (.cons (.tup (.cons (.str "within") (.cons (.var 6) (.cons (.var 1) .nil)))) (.cons (.var 4) .nil))) (.cons (.call 16 (.cons (.tup (.cons (.str "within") (.cons (.var 1) (.cons (.var 6) .nil)))) (.cons (.var 4) .nil))) .nil)))) (.cons (.asg (.nm 8) (.bin .Add (.var 8) (.lst (.cons (.call 16 (.cons (.tup (.cons (.str "within") (.cons (.var 6) (.cons (.var 6) .nil)))) (.cons (.var 4) .nil))) (.cons (.call 16 (.cons (.tup (.cons (.str "outside") (.cons (.var 6) (.cons (.var 2) (.cons (.var 7) .nil))))) (.cons (.tup .nil) .nil))) .nil))))) (.cons (.ite (.cmp .NotEq (.bin .Add (.var 8) (.lst (.cons (.call 16 (.cons (.tup (.cons (.str "outside") (.cons (.var 2) (.cons (.var 6) (.cons (.var 7) .nil))))) (.cons (.tup .nil) .nil))) .nil))) (.bin .Mult (.lst (.cons (.bl false) .nil)) (.int 5))) (.cons (.ret (.bl false)) .nil) .nil) .nil))))) (.cons (.ret (.and (.cmp .Is (.call 16 (.cons (.tup (.cons (.str "within") (.cons (.var 1) .nil))) (.cons (.var 4) .nil))) (.bl false)) (.cmp .Is (.call 16 (.cons (.tup (.cons (.str "inside") (.cons (.var 1) (.cons (.var 1) .nil)))) (.cons (.var 4) .nil))) (.bl false)))) .nil)))))
def b81 : Ss := (.cons (.asg (.tp (.cons (.nm 6) (.cons (.nm 7) .nil))) (.call 26 (.cons (.var 0) .nil))) (.cons (.asg (.nm 1) (.bi .sorted (.cons (.lst (.cons (.bi .str1 (.cons (.var 6) .nil)) (.cons (.bi .str1 (.cons (.var 7) .nil)) .nil))) .nil))) (.cons (.asg (.nm 2) (.call 30 (.cons (.var 0) (.cons (.sub (.lst (.cons (.lst (.cons (.var 6) .nil)) (.cons (.var 1) (.cons (.lst (.cons (.var 7) .nil)) .nil)))) (.call 23 (.cons (.var 0) (.cons (.int 3) .nil)))) .nil)))) (.cons (.asg (.nm 3) (.call 23 (.cons (.var 0) (.cons (.int 3) .nil)))) (.cons (.asg (.nm 4) (.call 30 (.cons (.var 0) (.cons (.sub (.lst (.cons (.lst (.cons (.var 6) .nil)) (.cons (.var 1) (.cons (.lst (.cons (.var 7) .nil)) .nil)))) (.call 23 (.cons (.var 0) (.cons (.int 3) .nil)))) .nil)))) (.cons (.ite (.cmp .Lt (.var 3) (.int 2)) (.cons (.asg (.nm 4) (.ite (.cmp .Eq (.var 3) (.int 0)) (.var 2) (.call 31 (.cons (.var 0) (.cons (.var 2) .nil))))) .nil) .nil) (.cons (.asg (.nm 5) (.lc (.nm 8) .seq (.cons (.var 1) .nil) (.cons (.cmp .In (.var 8) (.bin .Add (.sub (.var 2) (.int 0)) (.sub (.var 4) (.int 0)))) .nil) (.var 8) [8])) (.cons (.ite (.or (.not (.call 38 (.cons (.var 0) (.cons (.var 2) (.cons (.var 4) (.cons (.var 5) .nil)))))) (.not (.call 39 (.cons (.var 0) (.cons (.var 2) (.cons (.var 4) (.cons (.var 5) .nil))))))) (.cons (.ret (.bl false)) .nil) .nil) (.cons (.ret (.call 42 (.cons (.var 0) (.cons (.var 2) (.cons (.var 4) (.cons (.var 5) .nil)))))) .nil)))))))))
def b82 : Ss := (.cons (.ret (.bi .all (.cons (.lc (.nm 1) .range1 (.cons (.bi .max2 (.cons (.int 2) (.cons (.bi .min2 (.cons (.int 6) (.cons (.bi .len (.cons (.var 0) .nil)) .nil))) .nil))) .nil) .nil (.call 43 (.cons (.call 22 (.cons (.call 21 (.cons (.var 0) (.cons (.var 1) .nil))) .nil)) .nil)) [1]) .nil))) .nil)
def frs : List Fr := [⟨"is_whole", top 6, ["value"], 1, b6⟩,
  ⟨"is_word", top 7, ["value", "sign"], 1, b7⟩,
  ⟨"are_names", top 8, ["value", "index", "name"], 1, b8⟩,
  ⟨"rows_for", top 13, ["many", "found", "turn", "row", "digit"], 1, b13⟩,
  ⟨"place_of", top 18, ["name", "names", "place"], 2, b18⟩,
  ⟨"index_of", top 19, ["digits", "found", "digit"], 1, b19⟩,
  ⟨"digits_at", top 20, ["numbers", "place", "number"], 2, b20⟩,
  ⟨"length_of", top 21, ["numbers", "found", "number"], 1, b21⟩,
  ⟨"names_of", top 25, ["tuples", "found", "names", "name"], 1, b25⟩,
  ⟨"is_state", top 29, ["value", "many"], 2, b29⟩,
  ⟨"are_ways", top 30, ["value", "wide", "many", "ways", "way"], 3, b30⟩,
  ⟨"is_machine", top 31, ["value", "names", "ways", "marks", "state", "mark"], 1, b31⟩,
  ⟨"follower", top 32, ["machine", "state", "names", "digits", "own", "name"], 4, b32⟩,
  ⟨"keeps", top 33, ["machine", "names", "numbers", "state", "place"], 3, b33⟩,
  ⟨"are_pairs", top 34, ["value", "first", "second", "pair", "index"], 3, b34⟩,
  ⟨"is_closed", top 35, ["pairs", "first", "second", "names", "table", "steps", "one", "other", "step", "pair"], 4, b35⟩,
  ⟨"accepts", top 49, ["claim", "certificate"], 2, b49⟩,
  ⟨"is_empty", top 50, ["value"], 1, b50⟩,
  ⟨"is_number_of", top 51, ["value", "name"], 2, b51⟩,
  ⟨"are_numbers", top 52, ["value", "names", "pair", "name"], 2, b52⟩,
  ⟨"are_machines_so", top 57, ["claim", "certificate", "names", "numbers", "name", "number"], 2, b57⟩,
  ⟨"_law_cell", top 59, ["_law_script", "_law_k", "_law_found", "_law_cell_here"], 2, b59⟩,
  ⟨"_law_purse", top 60, ["_law_cell_here", "_law_digits"], 1, b60⟩,
  ⟨"_law_draw", top 61, ["_law_purse_here", "_law_many", "_law_state", "_law_digit"], 2, b61⟩,
  ⟨"_law_one_of", top 62, ["_law_purse_here", "_law_things"], 2, b62⟩,
  ⟨"_law_name", top 63, ["_law_purse_here", "_law_found", "_law_turn"], 1, b63⟩,
  ⟨"_law_two_names", top 64, ["_law_purse_here", "_law_first", "_law_second"], 1, b64⟩,
  ⟨"_law_so", top 65, ["_law_thing", "_law_due"], 2, b65⟩,
  ⟨"_law_rows", top 66, ["_law_many", "_law_found", "_law_turn", "_law_longer", "_law_row"], 1, b66⟩,
  ⟨"_law_end", top 67, ["_law_ways", "_law_state", "_law_here", "_law_turn", "_law_found"], 2, b67⟩,
  ⟨"_law_machine", top 68, ["_law_purse_here", "_law_names", "_law_ways", "_law_flags", "_law_many", "_law_wide", "_law_state", "_law_turn"], 2, b68⟩,
  ⟨"_law_more_marks", top 69, ["_law_purse_here", "_law_machine_here", "_law_flags", "_law_ends", "_law_names", "_law_ways", "_law_marks", "_law_state"], 2, b69⟩,
  ⟨"_law_after", top 70, ["_law_machine_here", "_law_state", "_law_names", "_law_digits", "_law_index", "_law_name_here"], 4, b70⟩,
  ⟨"_law_following", top 71, ["_law_first", "_law_second", "_law_names", "_law_pair", "_law_digits"], 4, b71⟩,
  ⟨"_law_met", top 72, ["_law_first", "_law_second", "_law_names", "_law_found", "_law_waiting", "_law_after_here", "_law_pair"], 3, b72⟩,
  ⟨"_law_ordered", top 73, ["_law_pairs", "_law_codes", "_law_pair", "_law_code"], 1, b73⟩,
  ⟨"_law_marks_right", top 74, ["_law_first", "_law_second", "_law_pairs", "_law_one", "_law_other"], 3, b74⟩,
  ⟨"_law_runs", top 75, ["_law_machine_here", "_law_names", "_law_numbers", "_law_state", "_law_left", "_law_number"], 3, b75⟩,
  ⟨"_law_within_right", top 76, ["_law_purse_here", "_law_first", "_law_second", "_law_names", "_law_at", "_law_more", "_law_wider", "_law_closed", "_law_odd", "_law_part", "_law_met_here", "_law_stated", "_law_due", "_law_paper", "_law_after_here", "_law_some"], 4, b76⟩,
  ⟨"_law_outside_right", top 77, ["_law_purse_here", "_law_first", "_law_second", "_law_names", "_law_turn", "_law_most", "_law_numbers", "_law_row", "_law_due", "_law_odd", "_law_name_here", "_law_at", "_law_some"], 4, b77⟩,
  ⟨"_law_machine_bent", top 78, ["_law_purse_here", "_law_machine_here", "_law_names", "_law_ways", "_law_marks", "_law_at", "_law_way", "_law_many", "_law_row", "_law_odd"], 2, b78⟩,
  ⟨"_law_turned_mark", top 79, ["_law_machine_here", "_law_spots", "_law_at", "_law_names", "_law_ways", "_law_marks", "_law_state"], 1, b79⟩,
  ⟨"_law_bent_right", top 80, ["_law_purse_here", "_law_first", "_law_second", "_law_names", "_law_paper", "_law_some", "_law_bent", "_law_row", "_law_told", "_law_each", "_law_name_here"], 4, b80⟩,
  ⟨"_law_right", top 81, ["_law_purse_here", "_law_both", "_law_one", "_law_way", "_law_other", "_law_names", "_law_first", "_law_second", "_law_name_here"], 1, b81⟩,
  ⟨"law", top 82, ["_law_script", "_law_k"], 1, b82⟩]
def ms : Ms := ⟨fnsOf frs, ["abs", "all", "any", "bool", "divmod", "int", "isinstance", "len", "list", "max", "min", "range", "sorted", "str", "tuple", "zip"], [("CLASSES", (.int 256)), ("LETTERS", (.str "abcdefghijklmnopqrstuvwxyz")), ("LONGEST", (.int 8)), ("NAMES", (.int 3)), ("PAIRS", (.int 4096))], ["LENGTHS"]⟩
def tab (x : Str) : List (Str × D) := if x == ("LENGTHS" : Str) then [("same", (.int 3)), ("apart", (.int 4)), ("parting", (.int 4)), ("relation", (.int 3)), ("within", (.int 3)), ("outside", (.int 4))] else []

theorem check : (frs.all (frOk ms)) = true := by kernel_rfl
end K69

set_option linter.all false
set_option autoImplicit false
set_option maxRecDepth 100000
set_option maxHeartbeats 1000000
namespace K69
open PySem PySem.Spec L2 Bc
abbrev pg : Pg := pgOf frs tab
abbrev cl (w k : Nat) : Cl := ⟨callF pg w k, pg.init, pg.tab⟩
theorem call_is_whole (w k : Nat) (x0 : D) : callF pg w (k + 1) 0 [x0] = (evSs (cl w k) w b6 [.val x0]).bind retOf := by kernel_rfl
theorem call_is_word (w k : Nat) (x0 : D) : callF pg w (k + 1) 1 [x0] = (evSs (cl w k) w b7 [.val x0, .un]).bind retOf := by kernel_rfl
theorem call_are_names (w k : Nat) (x0 : D) : callF pg w (k + 1) 2 [x0] = (evSs (cl w k) w b8 [.val x0, .un, .un]).bind retOf := by kernel_rfl
theorem call_rows_for (w k : Nat) (x0 : D) : callF pg w (k + 1) 3 [x0] = (evSs (cl w k) w b13 [.val x0, .un, .un, .un, .un]).bind retOf := by kernel_rfl
theorem call_place_of (w k : Nat) (x0 x1 : D) : callF pg w (k + 1) 4 [x0, x1] = (evSs (cl w k) w b18 [.val x0, .val x1, .un]).bind retOf := by kernel_rfl
theorem call_index_of (w k : Nat) (x0 : D) : callF pg w (k + 1) 5 [x0] = (evSs (cl w k) w b19 [.val x0, .un, .un]).bind retOf := by kernel_rfl
theorem call_digits_at (w k : Nat) (x0 x1 : D) : callF pg w (k + 1) 6 [x0, x1] = (evSs (cl w k) w b20 [.val x0, .val x1, .un]).bind retOf := by kernel_rfl
theorem call_length_of (w k : Nat) (x0 : D) : callF pg w (k + 1) 7 [x0] = (evSs (cl w k) w b21 [.val x0, .un, .un]).bind retOf := by kernel_rfl
theorem call_names_of (w k : Nat) (x0 : D) : callF pg w (k + 1) 8 [x0] = (evSs (cl w k) w b25 [.val x0, .un, .un, .un]).bind retOf := by kernel_rfl
theorem call_is_state (w k : Nat) (x0 x1 : D) : callF pg w (k + 1) 9 [x0, x1] = (evSs (cl w k) w b29 [.val x0, .val x1]).bind retOf := by kernel_rfl
theorem call_are_ways (w k : Nat) (x0 x1 x2 : D) : callF pg w (k + 1) 10 [x0, x1, x2] = (evSs (cl w k) w b30 [.val x0, .val x1, .val x2, .un, .un]).bind retOf := by kernel_rfl
theorem call_is_machine (w k : Nat) (x0 : D) : callF pg w (k + 1) 11 [x0] = (evSs (cl w k) w b31 [.val x0, .un, .un, .un, .un, .un]).bind retOf := by kernel_rfl
theorem call_follower (w k : Nat) (x0 x1 x2 x3 : D) : callF pg w (k + 1) 12 [x0, x1, x2, x3] = (evSs (cl w k) w b32 [.val x0, .val x1, .val x2, .val x3, .un, .un]).bind retOf := by kernel_rfl
theorem call_keeps (w k : Nat) (x0 x1 x2 : D) : callF pg w (k + 1) 13 [x0, x1, x2] = (evSs (cl w k) w b33 [.val x0, .val x1, .val x2, .un, .un]).bind retOf := by kernel_rfl
theorem call_are_pairs (w k : Nat) (x0 x1 x2 : D) : callF pg w (k + 1) 14 [x0, x1, x2] = (evSs (cl w k) w b34 [.val x0, .val x1, .val x2, .un, .un]).bind retOf := by kernel_rfl
theorem call_is_closed (w k : Nat) (x0 x1 x2 x3 : D) : callF pg w (k + 1) 15 [x0, x1, x2, x3] = (evSs (cl w k) w b35 [.val x0, .val x1, .val x2, .val x3, .un, .un, .un, .un, .un, .un]).bind retOf := by kernel_rfl
theorem call_accepts (w k : Nat) (x0 x1 : D) : callF pg w (k + 1) 16 [x0, x1] = (evSs (cl w k) w b49 [.val x0, .val x1]).bind retOf := by kernel_rfl
theorem call_is_empty (w k : Nat) (x0 : D) : callF pg w (k + 1) 17 [x0] = (evSs (cl w k) w b50 [.val x0]).bind retOf := by kernel_rfl
theorem call_is_number_of (w k : Nat) (x0 x1 : D) : callF pg w (k + 1) 18 [x0, x1] = (evSs (cl w k) w b51 [.val x0, .val x1]).bind retOf := by kernel_rfl
theorem call_are_numbers (w k : Nat) (x0 x1 : D) : callF pg w (k + 1) 19 [x0, x1] = (evSs (cl w k) w b52 [.val x0, .val x1, .un, .un]).bind retOf := by kernel_rfl
theorem call_are_machines_so (w k : Nat) (x0 x1 : D) : callF pg w (k + 1) 20 [x0, x1] = (evSs (cl w k) w b57 [.val x0, .val x1, .un, .un, .un, .un]).bind retOf := by kernel_rfl
theorem call_law_cell (w k : Nat) (x0 x1 : D) : callF pg w (k + 1) 21 [x0, x1] = (evSs (cl w k) w b59 [.val x0, .val x1, .un, .un]).bind retOf := by kernel_rfl
theorem call_law_purse (w k : Nat) (x0 : D) : callF pg w (k + 1) 22 [x0] = (evSs (cl w k) w b60 [.val x0, .un]).bind retOf := by kernel_rfl
theorem call_law_draw (w k : Nat) (x0 x1 : D) : callF pg w (k + 1) 23 [x0, x1] = (evSs (cl w k) w b61 [.val x0, .val x1, .un, .un]).bind retOf := by kernel_rfl
theorem call_law_one_of (w k : Nat) (x0 x1 : D) : callF pg w (k + 1) 24 [x0, x1] = (evSs (cl w k) w b62 [.val x0, .val x1]).bind retOf := by kernel_rfl
theorem call_law_name (w k : Nat) (x0 : D) : callF pg w (k + 1) 25 [x0] = (evSs (cl w k) w b63 [.val x0, .un, .un]).bind retOf := by kernel_rfl
theorem call_law_two_names (w k : Nat) (x0 : D) : callF pg w (k + 1) 26 [x0] = (evSs (cl w k) w b64 [.val x0, .un, .un]).bind retOf := by kernel_rfl
theorem call_law_so (w k : Nat) (x0 x1 : D) : callF pg w (k + 1) 27 [x0, x1] = (evSs (cl w k) w b65 [.val x0, .val x1]).bind retOf := by kernel_rfl
theorem call_law_rows (w k : Nat) (x0 : D) : callF pg w (k + 1) 28 [x0] = (evSs (cl w k) w b66 [.val x0, .un, .un, .un, .un]).bind retOf := by kernel_rfl
theorem call_law_end (w k : Nat) (x0 x1 : D) : callF pg w (k + 1) 29 [x0, x1] = (evSs (cl w k) w b67 [.val x0, .val x1, .un, .un, .un]).bind retOf := by kernel_rfl
theorem call_law_machine (w k : Nat) (x0 x1 : D) : callF pg w (k + 1) 30 [x0, x1] = (evSs (cl w k) w b68 [.val x0, .val x1, .un, .un, .un, .un, .un, .un]).bind retOf := by kernel_rfl
theorem call_law_more_marks (w k : Nat) (x0 x1 : D) : callF pg w (k + 1) 31 [x0, x1] = (evSs (cl w k) w b69 [.val x0, .val x1, .un, .un, .un, .un, .un, .un]).bind retOf := by kernel_rfl
theorem call_law_after (w k : Nat) (x0 x1 x2 x3 : D) : callF pg w (k + 1) 32 [x0, x1, x2, x3] = (evSs (cl w k) w b70 [.val x0, .val x1, .val x2, .val x3, .un, .un]).bind retOf := by kernel_rfl
theorem call_law_following (w k : Nat) (x0 x1 x2 x3 : D) : callF pg w (k + 1) 33 [x0, x1, x2, x3] = (evSs (cl w k) w b71 [.val x0, .val x1, .val x2, .val x3, .un]).bind retOf := by kernel_rfl
theorem call_law_met (w k : Nat) (x0 x1 x2 : D) : callF pg w (k + 1) 34 [x0, x1, x2] = (evSs (cl w k) w b72 [.val x0, .val x1, .val x2, .un, .un, .un, .un]).bind retOf := by kernel_rfl
theorem call_law_ordered (w k : Nat) (x0 : D) : callF pg w (k + 1) 35 [x0] = (evSs (cl w k) w b73 [.val x0, .un, .un, .un]).bind retOf := by kernel_rfl
theorem call_law_marks_right (w k : Nat) (x0 x1 x2 : D) : callF pg w (k + 1) 36 [x0, x1, x2] = (evSs (cl w k) w b74 [.val x0, .val x1, .val x2, .un, .un]).bind retOf := by kernel_rfl
theorem call_law_runs (w k : Nat) (x0 x1 x2 : D) : callF pg w (k + 1) 37 [x0, x1, x2] = (evSs (cl w k) w b75 [.val x0, .val x1, .val x2, .un, .un, .un]).bind retOf := by kernel_rfl
theorem call_law_within_right (w k : Nat) (x0 x1 x2 x3 : D) : callF pg w (k + 1) 38 [x0, x1, x2, x3] = (evSs (cl w k) w b76 [.val x0, .val x1, .val x2, .val x3, .un, .un, .un, .un, .un, .un, .un, .un, .un, .un, .un, .un]).bind retOf := by kernel_rfl
theorem call_law_outside_right (w k : Nat) (x0 x1 x2 x3 : D) : callF pg w (k + 1) 39 [x0, x1, x2, x3] = (evSs (cl w k) w b77 [.val x0, .val x1, .val x2, .val x3, .un, .un, .un, .un, .un, .un, .un, .un, .un]).bind retOf := by kernel_rfl
theorem call_law_machine_bent (w k : Nat) (x0 x1 : D) : callF pg w (k + 1) 40 [x0, x1] = (evSs (cl w k) w b78 [.val x0, .val x1, .un, .un, .un, .un, .un, .un, .un, .un]).bind retOf := by kernel_rfl
theorem call_law_turned_mark (w k : Nat) (x0 : D) : callF pg w (k + 1) 41 [x0] = (evSs (cl w k) w b79 [.val x0, .un, .un, .un, .un, .un, .un]).bind retOf := by kernel_rfl
theorem call_law_bent_right (w k : Nat) (x0 x1 x2 x3 : D) : callF pg w (k + 1) 42 [x0, x1, x2, x3] = (evSs (cl w k) w b80 [.val x0, .val x1, .val x2, .val x3, .un, .un, .un, .un, .un, .un, .un]).bind retOf := by kernel_rfl
theorem call_law_right (w k : Nat) (x0 : D) : callF pg w (k + 1) 43 [x0] = (evSs (cl w k) w b81 [.val x0, .un, .un, .un, .un, .un, .un, .un, .un]).bind retOf := by kernel_rfl
theorem call_law (w k : Nat) (x0 : D) : callF pg w (k + 1) 44 [x0] = (evSs (cl w k) w b82 [.val x0, .un]).bind retOf := by kernel_rfl
end K69

set_option linter.all false
set_option autoImplicit false
set_option maxRecDepth 100000
set_option maxHeartbeats 1000000
namespace K69
open PySem PySem.Spec L2 Bc
variable {w k : Nat}
mutual
/-- values that isinstance tells of, all the way down -/
def plain : D → Bool
  | .non => true
  | .bl _ => true
  | .int _ => true
  | .str x => decide (x.length ≤ LINE) && okS x
  | .tup xs => plains xs
  | .lst _ xs => plains xs
  | _ => false
def plains : List D → Bool
  | [] => true
  | x :: xs => plain x && plains xs
end
theorem plains_mem {xs : List D} (h : plains xs = true) : ∀ x ∈ xs, plain x = true := by
  induction xs with
  | nil => intro x hx; cases hx
  | cons y xs ih =>
    unfold plains at h
    rw [Bool.and_eq_true] at h
    intro x hx
    cases hx with
    | head => exact h.1
    | tail _ hx => exact ih h.2 x hx
theorem plains_of {xs : List D} (h : ∀ x ∈ xs, plain x = true) : plains xs = true := by
  induction xs with
  | nil => rfl
  | cons y xs ih =>
    unfold plains
    rw [h y (List.mem_cons_self ..), ih fun x hx => h x (List.mem_cons_of_mem _ hx)]
    rfl
def isW : D → Bool
  | .int _ => true
  | _ => false
theorem s_is_whole {d : D} (h : plain d = true) : callF pg w (k + 1) 0 [d] = M.pure (.bl (isW d)) := by
  rw [call_is_whole]
  cases d <;> first | rfl | (exfalso; revert h; decide) | skip
  all_goals (unfold plain at h; cases h)
def letter (c : Nat) : Bool := decide (c ∈ ("abcdefghijklmnopqrstuvwxyz" : Str).cps.toList)
def isWord : D → Bool
  | .str x => decide (0 < x.length) && decide (x.length ≤ 8) && x.cps.toList.all letter
  | _ => false
theorem inD_letter (c : Nat) : inD (.str ⟨#[c]⟩) (.str (Str.ofString "abcdefghijklmnopqrstuvwxyz")) = some (letter c) := rfl
theorem le8 (n : Nat) : ((n : Int) ≤ 8) ↔ n ≤ 8 := by omega
theorem len_cps (x : Str) : x.length = x.cps.toList.length := rfl
theorem s_is_word {d : D} (h : plain d = true) : callF pg w (k + 1) 1 [d] = M.pure (.bl (isWord d)) := by
  rw [call_is_word]
  cases d with
  | str x =>
    have h : x.length ≤ LINE := of_decide_eq_true (Bool.and_eq_true _ _ ▸ h : _ ∧ _).1
    by_cases h1 : 0 < x.length
    · by_cases h2 : x.length ≤ 8
      · simp [b7, bLen_str h, le8, h1, h2, Bc.wipe]
        rw [mapO_map (g := fun c => .bl (letter c)) fun c _ => by rw [cmpD_in (inD_letter c)]; rfl]
        simp [need_len, show x.cps.size ≤ LINE from h, bAll_map, isWord, h1, h2]
      · simp [b7, bLen_str h, le8, isWord, h1, h2]
    · simp [b7, bLen_str h, isWord, h1]
  | _ => first | rfl | (unfold plain at h; cases h)
def ltS (x y : Str) : Bool := decide (x.cps.toList < y.cps.toList)
def isNames : D → Bool
  | .tup xs => decide (xs.length ≤ 3) && (xs.all isWord && (match asStrs xs with
    | some ss => ascB ltS ss
    | none => false))
  | _ => false
theorem isWord_str {d : D} (h : isWord d = true) : ∃ x, d = .str x := by
  cases d with
  | str x => exact ⟨x, rfl⟩
  | _ => cases h
theorem words_strs {xs : List D} (h : xs.all isWord = true) : ∃ ss : List Str, xs = ss.map .str := by
  induction xs with
  | nil => exact ⟨[], rfl⟩
  | cons x xs ih =>
    rw [List.all_cons, Bool.and_eq_true] at h
    obtain ⟨y, rfl⟩ := isWord_str h.1
    obtain ⟨ss, rfl⟩ := ih h.2
    exact ⟨y :: ss, rfl⟩
theorem s_are_names {d : D} (h : plain d = true) : callF pg w (k + 2) 2 [d] = M.pure (.bl (isNames d)) := by
  rw [call_are_names]
  cases d with
  | tup xs =>
    have h := plains_mem (show plains xs = true from h)
    by_cases h1 : xs.length ≤ 3
    · simp [b8, h1, Bc.wipe, show ¬ (3 : Int) < xs.length by omega]
      rw [mapO_all (g := fun d => .bl (isWord d)) fun d hd => by rw [s_is_word (h d hd)]; rfl]
      cases h2 : xs.all isWord with
      | true =>
        simp [need_len, toLine (show xs.length ≤ 16777216 by omega), bAll_map, h2]
        obtain ⟨ss, rfl⟩ := words_strs h2
        have h3 : isNames (.tup (ss.map .str)) = ascB ltS ss := by
          show (decide ((ss.map D.str).length ≤ 3) && ((ss.map D.str).all isWord && (match asStrs (ss.map .str) with
            | some ss => ascB ltS ss
            | none => false))) = _
          rw [h2, decide_eq_true h1, asStrs_map (fun x => x)]
          simp
        rw [List.length_map] at h1
        rw [h3, List.length_map, itR2_1 (to62 (by omega)), pure_bind']
        rw [mapO_map (g := fun m => .bl (ltO ltS ss[m]? ss[m + 1]?))]
        · simp [need_len, toLine (show ss.length - 1 ≤ 16777216 by omega), bAll_map]
          rw [ascB]
        · intro m hm
          rw [List.mem_range] at hm
          simp
          rw [show (((m : Nat) : Int) + 1) = ((m + 1 : Nat) : Int) by omega, atI_ofNat, atI_ofNat]
          have h4 : m < ss.length := by omega
          have h5 : m + 1 < ss.length := by omega
          simp [h4, h5, ltS, ltO]
      | false => simp [need_len, toLine (show xs.length ≤ 16777216 by omega), bAll_map, h2, isNames]
    · simp [b8, isNames, h1, show (3 : Int) < xs.length by omega]
  | _ => first | rfl | (unfold plain at h; cases h)
end K69

set_option linter.all false
set_option autoImplicit false
set_option maxRecDepth 100000
set_option maxHeartbeats 1000000
namespace K69
open PySem PySem.Spec L2 Bc
variable {w k : Nat}
def isState (many : Nat) : D → Bool
  | .int i => decide (0 ≤ i) && decide (i < (many : Int))
  | _ => false
theorem s_is_state {d : D} {n : Nat} (h : plain d = true) : callF pg w (k + 2) 9 [d, .int n] = M.pure (.bl (isState n d)) := by
  rw [call_is_state]
  cases d with
  | int i =>
    simp [b29, s_is_whole h, isW, isState]
    by_cases h1 : 0 ≤ i <;> simp [h1]
  | _ => first | (simp [b29, s_is_whole h, isW, isState]; done) | (unfold plain at h; cases h)
def isRow (wide many : Nat) : D → Bool
  | .tup ys => decide (ys.length = wide) && ys.all (isState many)
  | _ => false
theorem s_rows0 : callF pg w (k + 1) 3 [.int 0] = M.pure (.lst true [.tup []]) := by
  rw [call_rows_for]
  have := itR1_nat (n := 0) (by decide)
  simp at this
  simp [b13, this, need_len, toLine, forL]
theorem s_rows1 : callF pg w (k + 1) 3 [.int 1] = M.pure (.lst true [.tup [.int 0], .tup [.int 1]]) := by
  rw [call_rows_for]
  have := itR1_nat (n := 1) (by decide)
  simp at this
  simp [b13, this, need_len, toLine, forL, flatO_cons1, flatO_nil, mapO_cons1, mapO_nil]
theorem s_rows2 : callF pg w (k + 1) 3 [.int 2] = M.pure (.lst true [.tup [.int 0, .int 0], .tup [.int 0, .int 1], .tup [.int 1, .int 0], .tup [.int 1, .int 1]]) := by
  rw [call_rows_for]
  have := itR1_nat (n := 2) (by decide)
  simp [List.range_succ] at this
  simp [b13, this, need_len, toLine, forL, flatO_cons1, flatO_nil, mapO_cons1, mapO_nil]
end K69

set_option linter.all false
set_option autoImplicit false
set_option maxRecDepth 100000
set_option maxHeartbeats 1000000
namespace K69
open PySem PySem.Spec L2 Bc
variable {w k : Nat}
/-- one or two names, the least first -/
structure Nms (ns : List Str) : Prop where
  ok : ∀ y ∈ ns, okS y = true
  len : 0 < ns.length ∧ ns.length ≤ 2
  word : ∀ y ∈ ns, isWord (.str y) = true
  asc : ascB ltS ns = true
def dN (ns : List Str) : D := .tup (ns.map .str)
theorem s_place_of {ns : List Str} {x : Str} (h : Nms ns) (hx : x ∈ ns) : callF pg w (k + 1) 4 [.str x, dN ns] = M.pure (.int (ns.idxOf x : Nat)) := by
  rw [call_place_of]
  have hl := h.len
  simp [b18, dN]
  rw [itR1_nat (to62 (by omega)), pure_bind', mapO_mapF (p := fun (m : Nat) => ns[m]? == some x) (g := fun (m : Nat) => D.int m)]
  · simp [need_len]
    match ns, hl, hx with
    | [a], _, hx =>
      have : x = a := by simpa using hx
      subst this
      simp [List.range_succ, need_len, toLine]
    | [a, b], _, hx =>
      by_cases e : a = x
      · subst e
        have hab : ¬ b = a := by
          intro e
          subst e
          have := h.asc
          rw [ascB_cons, Bool.and_eq_true] at this
          exact absurd (of_decide_eq_true this.1) (List.lt_irrefl _)
        simp [List.range_succ, need_len, toLine, hab, List.idxOf_cons]
      · have : x = b := by
          have : x = a ∨ x = b := by simpa using hx
          rcases this with e' | e'
          · exact absurd e'.symm e
          · exact e'
        subst this
        simp [List.range_succ, need_len, toLine, e, List.idxOf_cons, show (a == x) = false from by simpa using e]
  · intro m hm
    rw [List.mem_range] at hm
    simp [atI_ofNat, hm]
    rw [cmpD_eq_s (h.ok _ (by simp)) (h.ok _ hx)]
    by_cases e : ns[m] = x <;> simp [e]
end K69

set_option linter.all false
set_option autoImplicit false
set_option maxRecDepth 100000
set_option maxHeartbeats 1000000
namespace K69
open PySem PySem.Spec L2 Bc
variable {w k : Nat}
theorem mul2 {a : Nat} (h : a ≤ 1000) : mulOk 2 (a : Int) = true := by
  unfold mulOk
  apply decide_eq_true
  have : (a : Int).natAbs = a := by omega
  rw [this]
  have h2 : a.log2 ≤ a := Nat.log2_le_self a
  have h3 : (2 : Int).natAbs.log2 = 1 := by decide
  omega
def ixOf (ds : List Nat) : Nat := ds.foldl (fun a d => 2 * a + d) 0
theorem ixOf_le {ds : List Nat} (h : ∀ d ∈ ds, d ≤ 1) (hl : ds.length ≤ 4) : ixOf ds < 2 ^ ds.length := by
  match ds, hl with
  | [], _ => decide
  | [a], _ => simp [ixOf] at *; omega
  | [a, b], _ => simp [ixOf] at *; omega
  | [a, b, c], _ => simp [ixOf] at *; omega
  | [a, b, c, d], _ => simp [ixOf] at *; omega
theorem s_index_of {ds : List Nat} {b : Bool} (h : ∀ d ∈ ds, d ≤ 1) (hl : ds.length ≤ 2) : callF pg w (k + 1) 5 [.lst b (ds.map fun d => .int (d : Nat))] = M.pure (.int (ixOf ds : Nat)) := by
  rw [call_index_of]
  match ds, hl with
  | [], _ => simp [b19, forL, ixOf]
  | [a], _ =>
    have := mul2 (a := 0) (by omega)
    simp at this
    simp [b19, forL, ixOf, binD_mul this]
  | [a, c], _ =>
    have h1 := mul2 (a := 0) (by omega)
    simp at h1
    have h2 : a ≤ 1 := h a (by simp)
    have h2 := mul2 (a := a) (by omega)
    simp [b19, forL, ixOf, binD_mul h1, binD_mul h2]
end K69

set_option linter.all false
set_option autoImplicit false
set_option maxRecDepth 100000
set_option maxHeartbeats 1000000
namespace K69
open PySem PySem.Spec L2 Bc
variable {w k : Nat}
def dNat (ns : List Nat) : List D := ns.map fun n => .int (n : Nat)
theorem bitAnd1 (n : Nat) : Builtin.bitAnd (n : Int) 1 = ((n % 2 : Nat) : Int) := by
  have : Builtin.bitAnd (n : Int) 1 = ((n &&& 1 : Nat) : Int) := by
    unfold Builtin.bitAnd
    rw [decide_eq_true (show (0 : Int) ≤ (n : Int) by omega)]
    rfl
  rw [this, Nat.and_one_is_mod]
def digs (ns : List Nat) (p : Nat) : List Nat := ns.map fun n => n / 2 ^ p % 2
theorem s_digits_at {ns : List Nat} {p : Nat} (hl : ns.length ≤ 2) : callF pg w (k + 1) 6 [.tup (dNat ns), .int (p : Nat)] = M.pure (.lst true (dNat (digs ns p))) := by
  rw [call_digits_at]
  simp [b20, dNat]
  rw [mapO_map (g := fun n => D.int ((n / 2 ^ p % 2 : Nat) : Int)) fun n _ => by
    rw [binD_shr, pure_bind', show ((n : Int) / 2 ^ p) = ((n / 2 ^ p : Nat) : Int) by simp, binD_and, bitAnd1]
    rfl]
  simp [need_len, toLine (show ns.length ≤ 16777216 by omega), digs, Function.comp_def]
def maxBits : List Nat → Nat → Nat
  | [], a => a
  | n :: r, a => maxBits r (if Builtin.Int.intBits (n : Int) < a then a else Builtin.Int.intBits (n : Int))
theorem s_length_of {ns : List Nat} (hl : ns.length ≤ 2) : callF pg w (k + 1) 7 [.tup (dNat ns)] = M.pure (.int (maxBits ns 0 : Nat)) := by
  rw [call_length_of]
  match ns, hl with
  | [], _ => simp [b21, dNat, forL, maxBits]
  | [a], _ =>
    simp [b21, dNat, forL, maxBits, bmD, mBits, show ¬ ((Builtin.Int.intBits (a : Int) : Nat) : Int) < 0 by omega]
  | [a, b], _ =>
    simp [b21, dNat, forL, maxBits, bmD, mBits, show ¬ ((Builtin.Int.intBits (a : Int) : Nat) : Int) < 0 by omega]
    by_cases h : Builtin.Int.intBits (b : Int) < Builtin.Int.intBits (a : Int) <;> simp [h]
end K69

set_option linter.all false
set_option autoImplicit false
set_option maxRecDepth 100000
set_option maxHeartbeats 1000000
namespace K69
open PySem PySem.Spec L2 Bc
variable {w k : Nat}
structure Mach where
  nm : List Str
  W : List (List Nat)
  K : List Bool
def dRow (r : List Nat) : D := .tup (dNat r)
def dM (m : Mach) : D := .tup [dN m.nm, .tup (m.W.map dRow), .tup (m.K.map .bl)]
structure Good (m : Mach) : Prop where
  nms : Nms m.nm
  len : 0 < m.W.length ∧ m.W.length ≤ 6
  wide : ∀ r ∈ m.W, r.length = 2 ^ m.nm.length
  low : ∀ r ∈ m.W, ∀ x ∈ r, x < m.W.length
  marks : m.K.length = m.W.length
  still : ∀ i, i < m.W.length → m.K[((m.W[i]?.getD [])[0]?).getD 0]?.getD false = m.K[i]?.getD false
/-- the digits that a machine reads -/
def own (m : Mach) (ns : List Str) (ds : List Nat) : List Nat := m.nm.map fun x => (ds[ns.idxOf x]?).getD 0
def step (m : Mach) (st : Nat) (ns : List Str) (ds : List Nat) : Nat := ((m.W[st]?.getD [])[ixOf (own m ns ds)]?).getD 0
theorem own_le {m : Mach} {ns : List Str} {ds : List Nat} (h : ∀ d ∈ ds, d ≤ 1) : ∀ d ∈ own m ns ds, d ≤ 1 := by
  intro d hd
  unfold own at hd
  rw [List.mem_map] at hd
  obtain ⟨x, _, rfl⟩ := hd
  cases e : ds[ns.idxOf x]? with
  | none => simp
  | some v => exact h v (List.mem_of_getElem? e)
theorem step_lt {m : Mach} (hm : Good m) {st : Nat} {ns : List Str} {ds : List Nat} (h : ∀ d ∈ ds, d ≤ 1) (hs : st < m.W.length) : ∃ r, m.W[st]? = some r ∧ r[ixOf (own m ns ds)]? = some (step m st ns ds) ∧ step m st ns ds < m.W.length := by
  have e : m.W[st]? = some m.W[st] := List.getElem?_eq_getElem hs
  have hr : m.W[st] ∈ m.W := List.getElem_mem hs
  have hx := ixOf_le (own_le (m := m) (ns := ns) h) (by unfold own; rw [List.length_map]; have := hm.nms.len; omega)
  have hx : ixOf (own m ns ds) < m.W[st].length := by
    rw [hm.wide _ hr]
    unfold own at hx ⊢
    rw [List.length_map] at hx
    exact hx
  have e2 : m.W[st][ixOf (own m ns ds)]? = some (step m st ns ds) := by
    unfold step
    rw [e, Option.getD_some, List.getElem?_eq_getElem hx]
    rfl
  exact ⟨_, e, e2, hm.low _ hr _ (List.mem_of_getElem? e2)⟩
theorem s_follower {m : Mach} (hm : Good m) {st : Nat} {ns : List Str} {ds : List Nat} {dig : D} (hn : Nms ns) (hsub : ∀ x ∈ m.nm, x ∈ ns) (h : ∀ d ∈ ds, d ≤ 1) (hl : ds.length = ns.length) (hs : st < m.W.length) (hd : ∀ i, subD dig (.int i) = ofOpt (L2.atI (dNat ds) i)) :
    callF pg w (k + 2) 12 [dM m, .int (st : Nat), dN ns, dig] = M.pure (.int (step m st ns ds : Nat)) := by
  rw [call_follower]
  obtain ⟨r, e1, e2, _⟩ := step_lt (ns := ns) hm h hs
  simp [b32, dM]
  rw [show dN m.nm = .tup (m.nm.map .str) from rfl]
  simp
  rw [mapO_map (g := fun x => D.int (((ds[ns.idxOf x]?).getD 0 : Nat) : Int))]
  · have h3 := s_index_of (w := w) (k := k) (ds := own m ns ds) (b := true) (own_le h) (by unfold own; rw [List.length_map]; exact hm.nms.len.2)
    unfold own at h3
    rw [List.map_map] at h3
    simp only [Function.comp_def] at h3
    have := hm.nms.len
    simp [need_len, toLine (show m.nm.length ≤ 16777216 by omega)]
    rw [h3, atI_ofNat, List.getElem?_map, e1]
    simp [dRow, atI_ofNat, dNat]
    unfold own at e2
    rw [e2]
    rfl
  · intro x hx
    rw [s_place_of hn (hsub x hx), pure_bind', hd, atI_ofNat]
    have : ns.idxOf x < ds.length := by rw [hl]; exact List.idxOf_lt_length_of_mem (hsub x hx)
    simp [dNat, this]
end K69

set_option linter.all false
set_option autoImplicit false
set_option maxRecDepth 100000
set_option maxHeartbeats 1000000
namespace K69
open PySem PySem.Spec L2 Bc
variable {w k : Nat}
theorem digs_le {ns : List Nat} {p : Nat} : ∀ d ∈ digs ns p, d ≤ 1 := by
  intro d hd
  unfold digs at hd
  rw [List.mem_map] at hd
  obtain ⟨n, _, rfl⟩ := hd
  omega
def runTo (m : Mach) (ns : List Str) (nums : List Nat) (L : Nat) : Nat := (List.range L).foldl (fun st p => step m st ns (digs nums p)) 0
theorem s_keeps {m : Mach} (hm : Good m) {ns : List Str} {nums : List Nat} (hn : Nms ns) (hsub : ∀ x ∈ m.nm, x ∈ ns) (hl : nums.length = ns.length) (hL : maxBits nums 0 ≤ 1000) :
    callF pg w (k + 3) 13 [dM m, dN ns, .tup (dNat nums)] = M.pure (.bl (m.K[runTo m ns nums (maxBits nums 0)]?.getD false)) := by
  rw [call_keeps]
  have h2 : nums.length ≤ 2 := by have := hn.len; omega
  simp [b33, s_length_of h2]
  rw [itR1_nat (to62 (by omega)), pure_bind']
  refine forL_then (e := fun (p : Nat) => D.int p) (fun (a : Nat) (j : Slot) => [.val (dM m), .val (dN ns), .val (.tup (dNat nums)), .val (.int (a : Nat)), j])
    (fun st p => step m st ns (digs nums p)) (fun a => a < m.W.length) (xs := List.range (maxBits nums 0)) (a := 0) (j := .un) hm.len.1 ?_ ?_
  · intro p hp a j ha
    obtain ⟨_, _, _, h3⟩ := step_lt (ns := ns) hm (digs_le (ns := nums) (p := p)) ha
    refine ⟨h3, .val (.int p), ?_⟩
    simp [s_digits_at h2]
    rw [s_follower hm hn hsub (digs_le (ns := nums) (p := p)) (by unfold digs; simpa using hl) ha (fun i => rfl)]
    rfl
  · intro j i
    simp [dM, atI_ofNat]
    have h3 := i
    rw [← hm.marks] at h3
    rw [List.getElem?_eq_getElem h3]
    unfold runTo
    rw [List.getElem?_eq_getElem h3]
    rfl
end K69

set_option linter.all false
set_option autoImplicit false
set_option maxRecDepth 100000
set_option maxHeartbeats 1000000
namespace K69
open PySem PySem.Spec L2 Bc
variable {w k : Nat}
theorem toPys_str : ∀ ns : List Str, toPys (ns.map .str) = some (ns.map PyData.str)
  | [] => rfl
  | x :: r => by
    rw [List.map_cons]
    unfold toPys
    rw [toPys_str r]
    rfl
theorem depthAll_str : ∀ ns : List Str, PyData.depthAll (ns.map PyData.str) = 0
  | [] => rfl
  | x :: r => by
    rw [List.map_cons]
    unfold PyData.depthAll
    rw [depthAll_str r]
    rfl
theorem canAll_str : ∀ ns : List Str, (∀ y ∈ ns, okS y = true) → PyData.canLayAll0 (ns.map PyData.str) = true
  | [], _ => rfl
  | x :: r, h => by
    rw [List.map_cons]
    unfold PyData.canLayAll0
    rw [canAll_str r fun y hy => h y (List.mem_cons_of_mem _ hy)]
    have : PyData.canLay0 (.str x) = true := h x (List.mem_cons_self ..)
    rw [this]
    rfl
theorem any_str (x : Str) : ∀ ns : List Str, (ns.map PyData.str).any (fun z => PyData.eqv z (.str x)) = decide (x ∈ ns)
  | [] => rfl
  | y :: r => by
    rw [List.map_cons, List.any_cons, any_str x r]
    show ((y == x) || _) = _
    by_cases h : y = x
    · subst h; simp
    · have h' : ¬ x = y := fun e => h e.symm
      simp [h, h']
theorem inD_str {x : Str} {b : Bool} {ns : List Str} (hx : okS x = true) (h : ∀ y ∈ ns, okS y = true) : inD (.str x) (.lst b (ns.map .str)) = some (decide (x ∈ ns)) := by
  have h1 : SeqAt.shaped (.str x) = true := by
    unfold SeqAt.shaped
    rw [show PyData.canLay0 (.str x) = true from hx]
    rfl
  have h2 : SeqAt.shaped (.list (ns.map PyData.str)) = true := by
    unfold SeqAt.shaped
    rw [show PyData.canLay0 (.list (ns.map PyData.str)) = true by unfold PyData.canLay0; exact canAll_str ns h, show PyData.depth (.list (ns.map PyData.str)) = 1 by unfold PyData.depth; rw [depthAll_str]]
    rfl
  rw [inD_lst rfl (toPys_str ns) h1 h2, any_str]
/-- which of the two names -/
def pick (x y : Str) (i j : Bool) : List Str := (if i then [x] else []) ++ (if j then [y] else [])
structure Two (x y : Str) : Prop where
  okx : okS x = true
  oky : okS y = true
  lt : ltS x y = true
  wx : isWord (.str x) = true
  wy : isWord (.str y) = true
theorem Two.ne {x y : Str} (h : Two x y) : ¬ x = y := by
  intro e
  subst e
  exact absurd (of_decide_eq_true h.lt) (List.lt_irrefl _)
theorem Two.ltc {x y : Str} (h : Two x y) : ltCps x.cps.toList y.cps.toList = true := by rw [PyProof.Rows.ltCps_eq]; exact h.lt
theorem Two.ltc' {x y : Str} (h : Two x y) : ltCps y.cps.toList x.cps.toList = false := by
  rw [PyProof.Rows.ltCps_eq]
  exact decide_eq_false (List.lt_asymm (of_decide_eq_true h.lt))
theorem Two.nms {x y : Str} (h : Two x y) {i j : Bool} (hij : (i || j) = true) : Nms (pick x y i j) := by
  have h1 := h.okx
  have h2 := h.oky
  have h3 := h.wx
  have h4 := h.wy
  have h5 := h.lt
  refine ⟨?_, ?_, ?_, ?_⟩
  · cases i <;> cases j <;> simp_all [pick]
  · cases i <;> cases j <;> simp_all [pick]
  · cases i <;> cases j <;> simp_all [pick]
  · cases i <;> cases j <;> simp_all [pick, ascB_cons, ascB_one]
theorem s_names_of {x y : Str} (h : Two x y) {i j i' j' : Bool} (hij : (i || j) = true) (hij' : (i' || j') = true) :
    callF pg w (k + 1) 8 [.lst true [dN (pick x y i j), dN (pick x y i' j')]] = M.pure (dN (pick x y (i || i') (j || j'))) := by
  rw [call_names_of]
  have hx := h.okx
  have hy := h.oky
  have ne := h.ne
  have ne' : ¬ y = x := fun e => ne e.symm
  have lt := h.ltc
  have lt' := h.ltc'
  have n0 (z : Str) (hz : okS z = true) : cmpD .NotIn (.str z) (.lst true []) = M.pure (.bl true) := by
    have := inD_str (x := z) (b := true) (ns := []) hz (by simp)
    rw [show ([] : List D) = [].map D.str from rfl, cmpD_notin this]; rfl
  have n1 (z u : Str) (hz : okS z = true) (hu : okS u = true) : cmpD .NotIn (.str z) (.lst true [.str u]) = M.pure (.bl (!decide (z = u))) := by
    have := inD_str (x := z) (b := true) (ns := [u]) hz (by simpa using hu)
    rw [show ([.str u] : List D) = [u].map D.str from rfl, cmpD_notin this]
    simp
  have n2 (z : Str) (hz : okS z = true) : cmpD .NotIn (.str z) (.lst true [.str x, .str y]) = M.pure (.bl (!decide (z = x ∨ z = y))) := by
    have := inD_str (x := z) (b := true) (ns := [x, y]) hz (by intro u hu; simp at hu; rcases hu with rfl | rfl <;> assumption)
    rw [show ([.str x, .str y] : List D) = [x, y].map D.str from rfl, cmpD_notin this]
    simp
  have n3 (z : Str) (hz : okS z = true) : cmpD .NotIn (.str z) (.lst true [.str y, .str x]) = M.pure (.bl (!decide (z = y ∨ z = x))) := by
    have := inD_str (x := z) (b := true) (ns := [y, x]) hz (by intro u hu; simp at hu; rcases hu with rfl | rfl <;> assumption)
    rw [show ([.str y, .str x] : List D) = [y, x].map D.str from rfl, cmpD_notin this]
    simp
  have add (a b : List D) (ha : a.length ≤ 10) (hb : b.length ≤ 10) : binD .Add (.lst true a) (.lst true b) = M.pure (.lst true (a ++ b)) := binD_addL (toLine (by omega))
  cases i <;> cases j <;> cases i' <;> cases j' <;> first
    | (cases hij; done)
    | (cases hij'; done)
    | (simp [b25, pick, dN, forL, mapO_nil, mapO_cons1, n0, n1, n2, n3, hx, hy, ne, ne', need_len, toLine, add, bSorted, sortD, asInts, asStrs, sortS, insS, lt, lt']; done)
end K69

set_option linter.all false
set_option autoImplicit false
set_option maxRecDepth 100000
set_option maxHeartbeats 1000000
namespace K69
open PySem PySem.Spec L2 Bc
variable {w k : Nat}
def isTup : D → Bool
  | .tup _ => true
  | _ => false
theorem isi_tuple {d : D} (h : plain d = true) : isiDs d [.tuple] = some (isTup d) := by
  cases d <;> first | rfl | (unfold plain at h; cases h)
theorem s_are_ways {xs : List D} {a b : Nat} (h : plains xs = true) (ha : a ≤ 1000) :
    callF pg w (k + 3) 10 [.tup xs, .int (a : Nat), .int (b : Nat)] = M.pure (.bl (xs.all (isRow a b))) := by
  rw [call_are_ways]
  have h := plains_mem h
  simp [b30]
  refine forL_find0_then (fun (j : Slot × Slot) => [.val (.tup xs), .val (.int (a : Nat)), .val (.int (b : Nat)), j.1, j.2]) (fun d => !isRow a b d) (.bl false) (j := (.un, .un)) ?_ ?_
  · intro d hd j
    have hp := h d hd
    refine ⟨(.val d, j.2), ?_⟩
    cases d with
    | tup ys =>
      have hy := plains_mem (show plains ys = true from hp)
      by_cases h1 : ys.length = a
      · simp [h1, Bc.wipe]
        rw [mapO_all (g := fun d => .bl (isState b d)) fun d hd => by simp [s_is_state (hy d hd)]]
        cases e : ys.all (isState b) <;> simp [need_len, toLine (show a ≤ 16777216 by omega), h1, bAll_map, isRow, e]
      · simp [h1, isRow, show ¬ (ys.length : Int) = (a : Int) by omega]
    | _ => first | (simp [isRow]; done) | (unfold plain at hp; cases hp)
  · intro j
    cases e : xs.any (fun d => !isRow a b d) with
    | true =>
      have : xs.all (isRow a b) = false := by
        rw [List.any_eq_true] at e
        obtain ⟨x, hx, e⟩ := e
        rw [List.all_eq_false]
        exact ⟨x, hx, by simpa using e⟩
      simp [this]
    | false =>
      have : xs.all (isRow a b) = true := by
        rw [List.any_eq_false] at e
        rw [List.all_eq_true]
        intro x hx
        have := e x hx
        simpa using this
      simp [this]
theorem s_rows3 : ∃ xs, callF pg w (k + 1) 3 [.int 3] = M.pure (.lst true xs) ∧ xs.length = 8 := by
  refine ⟨[.tup [.int 0, .int 0, .int 0], .tup [.int 0, .int 0, .int 1], .tup [.int 0, .int 1, .int 0], .tup [.int 0, .int 1, .int 1], .tup [.int 1, .int 0, .int 0], .tup [.int 1, .int 0, .int 1], .tup [.int 1, .int 1, .int 0], .tup [.int 1, .int 1, .int 1]], ?_, rfl⟩
  rw [call_rows_for]
  have := itR1_nat (n := 3) (by decide)
  simp [List.range_succ] at this
  simp [b13, this, need_len, toLine, forL, flatO_cons1, flatO_nil, mapO_cons1, mapO_nil]
theorem s_rows_len {n : Nat} (h : n ≤ 3) : ∃ xs, callF pg w (k + 1) 3 [.int n] = M.pure (.lst true xs) ∧ xs.length = 2 ^ n := by
  match n, h with
  | 0, _ => exact ⟨_, s_rows0, rfl⟩
  | 1, _ => exact ⟨_, s_rows1, rfl⟩
  | 2, _ => exact ⟨_, s_rows2, rfl⟩
  | 3, _ => exact s_rows3
def isBl : D → Bool
  | .bl _ => true
  | _ => false
theorem isi_bool {d : D} (h : plain d = true) : isiDs d [.bool] = some (isBl d) := by
  cases d <;> first | rfl | (unfold plain at h; cases h)
def markAt (ms : List D) (i : Nat) : Bool := match ms[i]? with
  | some (.bl b) => b
  | _ => false
def wayAt (ws : List D) (i : Nat) : Nat := match ws[i]? with
  | some (.tup (.int j :: _)) => j.toNat
  | _ => 0
def tupLen : D → Nat
  | .tup xs => xs.length
  | _ => 0
def marksB (ws ms : List D) : Bool := (List.range ws.length).all fun i => markAt ms (wayAt ws i) == markAt ms i
def isMachT (n : D) (ws ms : List D) : Bool := isNames n && (decide (0 < ws.length) && decide (ws.length ≤ 256)) && ws.all (isRow (2 ^ tupLen n) ws.length) && (decide (ms.length = ws.length) && ms.all isBl) && marksB ws ms
def isMachB : D → Bool
  | .tup [n, .tup ws, .tup ms] => isMachT n ws ms
  | _ => false
theorem isNames_len {d : D} (h : isNames d = true) : ∃ xs, d = .tup xs ∧ xs.length ≤ 3 := by
  cases d with
  | tup xs =>
    refine ⟨xs, rfl, ?_⟩
    unfold isNames at h
    rw [Bool.and_eq_true] at h
    exact of_decide_eq_true h.1
  | _ => cases h
end K69

set_option linter.all false
set_option autoImplicit false
set_option maxRecDepth 100000
set_option maxHeartbeats 1000000
namespace K69
open PySem PySem.Spec L2 Bc
variable {w k : Nat}
theorem row_first {a b : Nat} {d : D} (h : isRow a b d = true) (ha : 0 < a) : ∃ (j : Nat) (ys : List D), d = .tup (.int j :: ys) ∧ j < b := by
  cases d with
  | tup ys =>
    unfold isRow at h
    rw [Bool.and_eq_true] at h
    have h1 := of_decide_eq_true h.1
    match ys, h1, h.2 with
    | [], h1, _ => simp at h1; omega
    | y :: ys, _, h2 =>
      rw [List.all_cons, Bool.and_eq_true] at h2
      cases y with
      | int i =>
        have := h2.1
        unfold isState at this
        rw [Bool.and_eq_true] at this
        have h3 := of_decide_eq_true this.1
        have h4 := of_decide_eq_true this.2
        refine ⟨i.toNat, ys, ?_, by omega⟩
        rw [Int.toNat_of_nonneg h3]
      | _ => cases h2.1
  | _ => cases h
theorem mark_bl {ms : List D} (h : ms.all isBl = true) {i : Nat} (hi : i < ms.length) : ms[i]? = some (.bl (markAt ms i)) := by
  have h1 := List.getElem?_eq_getElem hi
  have h2 := (List.all_eq_true.1 h) _ (List.getElem_mem hi)
  unfold markAt
  rw [h1]
  cases e : ms[i] with
  | bl b => rfl
  | _ => rw [e] at h2; cases h2
theorem s_is_machine {d : D} (h : plain d = true) : callF pg w (k + 4) 11 [d] = M.pure (.bl (isMachB d)) := by
  rw [call_is_machine]
  cases d with
  | tup xs =>
    have h := plains_mem (show plains xs = true from h)
    by_cases h1 : xs.length = 3
    · match xs, h1, h with
      | [n, a, b], _, h =>
        have hn := h n (by simp)
        have ha := h a (by simp)
        have hb := h b (by simp)
        cases hN : isNames n with
        | false =>
          have : isMachB (.tup [n, a, b]) = false := by cases a <;> cases b <;> first | rfl | simp [isMachB, isMachT, hN]
          simp [b31, s_are_names hn, hN, this]
        | true =>
          obtain ⟨ns, rfl, hl⟩ := isNames_len hN
          cases a with
          | tup ws =>
            obtain ⟨rs, e1, e2⟩ := s_rows_len (w := w) (k := k + 2) hl
            have hws : plains ws = true := ha
            have h8 : 2 ^ ns.length ≤ 8 := Nat.pow_le_pow_right (n := 2) (by decide) hl
            have e3 := s_are_ways (w := w) (k := k) (xs := ws) (a := 2 ^ ns.length) (b := ws.length) hws (by omega)
            by_cases g1 : 0 < ws.length
            · by_cases g2 : ws.length ≤ 256
              · have g2' : (ws.length : Int) ≤ 256 := by omega
                cases g3 : ws.all (isRow (2 ^ ns.length) ws.length) with
                | false =>
                  have : isMachB (.tup [.tup ns, .tup ws, b]) = false := by cases b <;> first | rfl | simp [isMachB, isMachT, g3, tupLen]
                  rw [g3] at e3
                  simp [b31, s_are_names hn, hN, g1, g2', e1, e2, this]
                  simp at e3
                  simp [e3]
                | true =>
                  rw [g3] at e3
                  simp at e3
                  cases b with
                  | tup ms =>
                    have hms := plains_mem (show plains ms = true from hb)
                    by_cases g4 : ms.length = ws.length
                    · simp [b31, s_are_names hn, hN, g1, g2', e1, e2, e3, g4, Bc.wipe]
                      rw [mapO_all (g := fun d => .bl (isBl d)) fun d hd => by simp [isi_bool (hms d hd)]]
                      cases g5 : ms.all isBl with
                      | false => simp [need_len, toLine (show ws.length ≤ 16777216 by omega), g4, bAll_map, g5, isMachB, isMachT]
                      | true =>
                        simp [need_len, toLine (show ws.length ≤ 16777216 by omega), g4, bAll_map, g5]
                        rw [itR1_nat (to62 (by omega)), pure_bind']
                        rw [mapO_map (g := fun (i : Nat) => .bl (markAt ms (wayAt ws i) == markAt ms i))]
                        · simp [need_len, toLine (show ws.length ≤ 16777216 by omega), bAll_map, isMachB, isMachT, hN, g1, g2, g3, g4, g5, tupLen, marksB]
                        · intro i hi
                          rw [List.mem_range] at hi
                          obtain ⟨j, ys, h3, h4⟩ := row_first ((List.all_eq_true.1 g3) _ (List.getElem_mem hi)) (Nat.pow_pos (by decide))
                          have h5 : ws[i]? = some (.tup (.int j :: ys)) := by rw [List.getElem?_eq_getElem hi, h3]
                          have h6 : wayAt ws i = j := by unfold wayAt; rw [h5]; simp
                          simp [atI_ofNat, h5, mark_bl g5 (show i < ms.length by omega), mark_bl g5 (show j < ms.length by omega), h6]
                    · have : isMachB (.tup [.tup ns, .tup ws, .tup ms]) = false := by simp [isMachB, isMachT, g4]
                      simp [b31, s_are_names hn, hN, g1, g2', e1, e2, e3, this, show ¬ (ms.length : Int) = (ws.length : Int) by omega]
                  | _ => first | (simp [b31, s_are_names hn, hN, g1, g2', e1, e2, e3, isMachB]; done) | (unfold plain at hb; cases hb)
              · have : isMachB (.tup [.tup ns, .tup ws, b]) = false := by cases b <;> first | rfl | simp [isMachB, isMachT, g2]
                simp [b31, s_are_names hn, hN, this, show ¬ (ws.length : Int) ≤ 256 by omega]
            · have : isMachB (.tup [.tup ns, .tup ws, b]) = false := by cases b <;> first | rfl | simp [isMachB, isMachT, g1]
              simp [b31, s_are_names hn, hN, this, g1]
          | _ => first | (simp [b31, s_are_names hn, hN, isMachB]; done) | (unfold plain at ha; cases ha)
    · have : isMachB (.tup xs) = false := by
        match xs, h1 with
        | [], _ => rfl
        | [_], _ => rfl
        | [_, _], _ => simp [isMachB]
        | _ :: _ :: _ :: _ :: _, _ => simp [isMachB]
        | [_, _, _], h => exact absurd rfl h
      simp [b31, this, show ¬ (xs.length : Int) = 3 by omega]
  | _ => first | rfl | (unfold plain at h; cases h)
end K69

set_option linter.all false
set_option autoImplicit false
set_option maxRecDepth 100000
set_option maxHeartbeats 1000000
namespace K69
open PySem PySem.Spec L2 Bc
variable {w k : Nat}
theorem set_get {α : Type} {s : List α} {p : Nat} {x v : α} (h : s[p]? = some x) : (s.set p v)[p]? = some v := by
  rw [List.getElem?_set]
  have : p < s.length := by
    rw [List.getElem?_eq_some_iff] at h
    exact h.1
  simp [this]
theorem s_draw {p n many : Nat} (hm : 0 < many) (hM : many < 2 ^ 200) (hn : n ≤ 1000000) : Tri (Pur p n) (callF pg w (k + 1) 23 [.loc p, .int (many : Nat)]) fun d s => (∃ j : Nat, d = .int j ∧ j < many) ∧ Pur p (n + 1) s := by
  intro s hs
  obtain ⟨a, b, c, e, h1, h2, h3, h4, h5⟩ := hs
  suffices h : Tri (· = s) (callF pg w (k + 1) 23 [.loc p, .int (many : Nat)]) fun d s => (∃ j : Nat, d = .int j ∧ j < many) ∧ Pur p (n + 1) s from h s rfl
  rw [call_law_draw]
  have hmod : ∀ x : Int, binD .Mod (.int x) (.int 28657) = M.pure (.int (x % 28657)) := fun x => binD_mod (by decide)
  have hmod2 : ∀ x : Int, binD .Mod (.int x) (.int 2147483563) = M.pure (.int (x % 2147483563)) := fun x => binD_mod (by decide)
  have hmod3 : ∀ x : Int, binD .Mod (.int x) (.int (many : Nat)) = M.pure (.int (x % many)) := fun x => binD_mod (by omega)
  have hdiv : ∀ x : Int, binD .FloorDiv (.int x) (.int 64) = M.pure (.int (x / 64)) := fun x => binD_div (pyDiv_small (by decide) (by decide))
  have m1 : binD .Mult (.int a) (.int (a % 28657 + 46337)) = M.pure (.int (a * (a % 28657 + 46337))) := binD_mul (mulOk_small (by omega) (by omega))
  have m2 : binD .Mult (.int 75011) (.int (c + 1)) = M.pure (.int (75011 * (c + 1))) := binD_mul (mulOk_small (by omega) (by omega))
  simp [b61]
  refine tri_loc e rfl ?_
  simp
  refine tri_set e rfl rfl ?_
  have e2 : (s.set p ((purse a b c).set 2 (D.int (c + 1))))[p]? = some (purse a b (c + 1)) := set_get e
  simp
  refine tri_loc e2 rfl ?_
  simp [hmod, m1]
  refine tri_loc e2 rfl ?_
  simp [m2, hmod2]
  refine tri_set e2 rfl rfl ?_
  have e3 : (s.set p ((purse a b (c + 1)).set 0 (D.int ((a * (a % 28657 + 46337) + 75011 * (c + 1) + 29) % 2147483563))))[p]? = some (purse ((a * (a % 28657 + 46337) + 75011 * (c + 1) + 29) % 2147483563) b (c + 1)) := set_get e
  have q1 : 0 ≤ (a * (a % 28657 + 46337) + 75011 * (c + 1) + 29) % 2147483563 := Int.emod_nonneg _ (by decide)
  have q2 : (a * (a % 28657 + 46337) + 75011 * (c + 1) + 29) % 2147483563 < 2147483563 := Int.emod_lt_of_pos _ (by decide)
  generalize (a * (a % 28657 + 46337) + 75011 * (c + 1) + 29) % 2147483563 = a' at e3 q1 q2 ⊢
  simp
  refine tri_loc e3 rfl ?_
  simp
  by_cases hb : 0 < b
  · simp [hb]
    refine tri_loc e3 rfl ?_
    simp
    have : bDivmod [.int b, .int (many : Nat)] = M.pure (.tup [.int (b / many), .int (b % many)]) := by
      show (if pyDiv b many then (M.pure (.tup [.int (b / many), .int (b % many)]) : M D) else stuck) = _
      rw [if_pos (pyDiv_small (by omega) (by omega))]
    simp [this]
    refine tri_set e3 rfl rfl ?_
    simp
    refine Tri.pure fun s' hs' => ?_
    subst hs'
    refine ⟨⟨(b % many).toNat, ?_, ?_⟩, a', b / many, c + 1, ?_, q1, q2, ?_, by omega, by omega⟩
    · rw [Int.toNat_of_nonneg (Int.emod_nonneg _ (by omega))]
    · have := Int.emod_lt_of_pos b (show (0 : Int) < many by omega)
      have := Int.emod_nonneg b (show (many : Int) ≠ 0 by omega)
      omega
    · exact set_get e
    · exact Int.ediv_nonneg h3 (by omega)
  · simp [hb]
    refine tri_loc e3 rfl ?_
    simp [hdiv, hmod3]
    refine Tri.pure fun s' hs' => ?_
    subst hs'
    refine ⟨⟨(a' / 64 % many).toNat, ?_, ?_⟩, a', b, c + 1, e3, q1, q2, h3, by omega, by omega⟩
    · rw [Int.toNat_of_nonneg (Int.emod_nonneg _ (by omega))]
    · have := Int.emod_lt_of_pos (a' / 64) (show (0 : Int) < many by omega)
      have := Int.emod_nonneg (a' / 64) (show (many : Int) ≠ 0 by omega)
      omega
theorem s_one_of {p n : Nat} {b : Bool} {xs : List D} (h0 : xs ≠ []) (hM : xs.length ≤ 1000) (hn : n ≤ 1000000) : Tri (Pur p n) (callF pg w (k + 2) 24 [.loc p, .lst b xs]) fun d s => d ∈ xs ∧ Pur p (n + 1) s := by
  rw [call_law_one_of]
  simp [b62]
  have : 0 < xs.length := List.length_pos_iff.2 h0
  refine Tri.bindF (s_draw this (by omega) hn) fun d hd => ?_
  obtain ⟨j, rfl, hj⟩ := hd
  simp [atI_ofNat, hj]
  exact Tri.pure fun s hs => ⟨List.getElem_mem hj, hs⟩
end K69

set_option linter.all false
set_option autoImplicit false
set_option maxRecDepth 100000
set_option maxHeartbeats 1000000
namespace K69
open PySem PySem.Spec L2 Bc
variable {w k : Nat}
def sgn (c : Nat) : Str := ⟨#[c]⟩
def ltrs (x : Str) : Prop := ∀ c ∈ x.cps.toList, letter c = true
theorem letter_lt {c : Nat} (h : letter c = true) : c < 0x110000 := by
  have h := of_decide_eq_true h
  have : ("abcdefghijklmnopqrstuvwxyz" : Str).cps.toList.all (fun c => decide (c < 0x110000)) = true := by decide +kernel
  exact of_decide_eq_true (List.all_eq_true.1 this c h)
theorem ltrs_okS {x : Str} (h : ltrs x) : okS x = true := by
  show x.cps.all (· < 0x110000) = true
  rw [← Array.all_toList, List.all_eq_true]
  intro c hc
  exact decide_eq_true (letter_lt (h c hc))
structure Wd (x : Str) : Prop where
  len : 0 < x.length ∧ x.length ≤ 8
  lt : ltrs x
theorem Wd.ok {x : Str} (h : Wd x) : okS x = true := ltrs_okS h.lt
theorem Wd.word {x : Str} (h : Wd x) : isWord (.str x) = true := by
  show (decide (0 < x.length) && decide (x.length ≤ 8) && x.cps.toList.all letter) = true
  rw [decide_eq_true h.len.1, decide_eq_true h.len.2, List.all_eq_true.2 h.lt]
  rfl
theorem app_cps (x : Str) (c : Nat) : (x ++ sgn c).cps.toList = x.cps.toList ++ [c] := by
  show (x.cps ++ #[c]).toList = _
  simp
theorem s_name {p n : Nat} (hn : n ≤ 900000) : Tri (Pur p n) (callF pg w (k + 2) 25 [.loc p]) fun d s => (∃ x, d = .str x ∧ Wd x) ∧ Pur p (n + 9) s := by
  rw [call_law_name]
  simp [b63]
  refine Tri.bindF (s_draw (many := 8) (by decide) (by decide) (by omega)) fun d hd => ?_
  obtain ⟨j, rfl, hj⟩ := hd
  simp
  rw [show (1 : Int) + (j : Int) = ((1 + j : Nat) : Int) by omega, itR1_nat (to62 (by omega)), pure_bind']
  have hl : ∀ i : Nat, i < 26 → ∃ c, subD (.str "abcdefghijklmnopqrstuvwxyz") (.int i) = M.pure (.str (sgn c)) ∧ letter c = true := by
    intro i hi
    have : ("abcdefghijklmnopqrstuvwxyz" : Str).cps.toList.length = 26 := by decide +kernel
    have hi' : i < ("abcdefghijklmnopqrstuvwxyz" : Str).cps.toList.length := by omega
    refine ⟨("abcdefghijklmnopqrstuvwxyz" : Str).cps.toList[i], ?_, decide_eq_true (List.getElem_mem hi')⟩
    have e : ∀ z : Str, z.length ≤ LINE → subD (.str z) (.int i) = ofOpt ((L2.atI z.cps.toList i).map fun c => .str ⟨#[c]⟩) := by
      intro z hz
      show (if z.length ≤ LINE then ofOpt ((L2.atI z.cps.toList i).map fun c => D.str ⟨#[c]⟩) else (stuck : M D)) = _
      rw [if_pos hz]
    rw [e _ (by decide +kernel), atI_ofNat, List.getElem?_eq_getElem hi']
    rfl
  refine Tri.bindF (Tri.pre (tri_forL
    (J := fun m env => ∃ x j, env = [.val (.loc p), .val (.str x), j] ∧ x.length = m ∧ ltrs x)
    (I := fun m s => Pur p (n + 1 + m) s) (N := 8) (n := 0) ?_ (by simp; omega) ⟨Str.empty, .un, rfl, rfl, by intro c hc; cases hc⟩) fun s hs => hs) fun r hr => ?_
  rotate_left
  · obtain ⟨env', rfl, x, j', rfl, hx, hy⟩ := hr
    simp
    rw [List.length_map, List.length_range] at hx
    refine Tri.pure fun s hs => ⟨⟨x, rfl, ⟨by omega, hy⟩⟩, hs.mono (by omega)⟩
  · intro d hd m env hm hJ Q hQ
    obtain ⟨x, jj, rfl, hx, hy⟩ := hJ
    · simp
      refine Tri.bindF ((s_draw (p := p) (n := n + 1 + m) (many := 26) (by decide) (by decide) (by omega)).pre fun s hs => hs) fun d1 hd1 => ?_
      obtain ⟨i, rfl, hi⟩ := hd1
      obtain ⟨c, e, hc⟩ := hl i hi
      rw [e, pure_bind', binD_addS]
      · simp
        refine Tri.pure fun s hs => hQ _ _ ⟨x ++ sgn c, _, rfl, ?_, ?_⟩ ?_
        · rw [len_cps, app_cps, List.length_append, ← len_cps, hx]; rfl
        · intro z hz
          rw [app_cps, List.mem_append] at hz
          rcases hz with hz | hz
          · exact hy z hz
          · have : z = c := by simpa using hz
            subst this; exact hc
        · exact hs.mono (by omega)
      · rw [hx]
        have : (sgn c).length = 1 := rfl
        rw [this]
        exact toLine (by omega)
end K69

set_option linter.all false
set_option autoImplicit false
set_option maxRecDepth 100000
set_option maxHeartbeats 1000000
namespace K69
open PySem PySem.Spec L2 Bc
variable {w k : Nat}
theorem ltrs_of {x : Str} (h : x.cps.toList.all letter = true) : ltrs x := fun c hc => List.all_eq_true.1 h c hc
theorem wd_a : Wd ("a" : Str) := ⟨by decide +kernel, ltrs_of (by decide +kernel)⟩
theorem wd_b : Wd ("b" : Str) := ⟨by decide +kernel, ltrs_of (by decide +kernel)⟩
theorem s_two_names {p n : Nat} (hn : n ≤ 800000) : Tri (Pur p n) (callF pg w (k + 3) 26 [.loc p]) fun d s => (∃ x y, d = .tup [.str x, .str y] ∧ Wd x ∧ Wd y ∧ x ≠ y) ∧ Pur p (n + 18) s := by
  rw [call_law_two_names]
  simp [b64]
  refine Tri.bindF (s_name (n := n) (by omega)) fun d hd => ?_
  obtain ⟨x, rfl, hx⟩ := hd
  refine Tri.bindF (s_name (n := n + 9) (by omega)) fun d hd => ?_
  obtain ⟨y, rfl, hy⟩ := hd
  simp [need_len, toLine]
  rw [cmpD_eq_s hx.ok hy.ok]
  by_cases e : x = y
  · subst e
    simp
    rw [cmpD_ne_s hx.ok wd_a.ok]
    by_cases e : x = ("a" : Str)
    · subst e
      simp [need_len, toLine]
      exact Tri.pure fun s hs => ⟨⟨_, _, rfl, wd_a, wd_b, by decide +kernel⟩, hs⟩
    · simp [need_len, toLine, e]
      exact Tri.pure fun s hs => ⟨⟨_, _, rfl, hx, wd_a, e⟩, hs⟩
  · simp [need_len, toLine, e]
    exact Tri.pure fun s hs => ⟨⟨_, _, rfl, hx, hy, e⟩, hs⟩
end K69

set_option linter.all false
set_option autoImplicit false
set_option maxRecDepth 100000
set_option maxHeartbeats 1000000
namespace K69
open PySem PySem.Spec L2 Bc
variable {w k : Nat}
theorem s_so (a b : Bool) : callF pg w (k + 1) 27 [.bl a, .bl b] = M.pure (.bl (a == b)) := by
  rw [call_law_so]
  cases a <;> cases b <;> simp [b65]
def rowsL : Nat → List (List Nat)
  | 0 => [[]]
  | 1 => [[0], [1]]
  | _ => [[0, 0], [0, 1], [1, 0], [1, 1]]
theorem s_rowsC {n : Nat} (h : n ≤ 2) : callF pg w (k + 1) 3 [.int (n : Nat)] = M.pure (.lst true ((rowsL n).map dRow)) := by
  match n, h with
  | 0, _ => exact s_rows0
  | 1, _ => exact s_rows1
  | 2, _ => exact s_rows2
theorem addL {a b : List D} {f f' : Bool} (h : a.length ≤ 10 ∧ b.length ≤ 10) : binD .Add (.lst f a) (.lst f' b) = M.pure (.lst true (a ++ b)) := binD_addL (toLine (by omega))
theorem addT {a b : List D} (h : a.length ≤ 10 ∧ b.length ≤ 10) : binD .Add (.tup a) (.tup b) = M.pure (.tup (a ++ b)) := binD_addT (toLine (by omega))
theorem s_lrows {n : Nat} (h0 : 0 < n) (h : n ≤ 2) : callF pg w (k + 1) 28 [.int (n : Nat)] = M.pure (.lst true ((rowsL n).map dRow)) := by
  rw [call_law_rows]
  match n, h0, h with
  | 1, _, _ =>
    have := itR1_nat (n := 1) (by decide)
    simp at this
    simp [b66, this, need_len, toLine, forL, addL, addT]
    rfl
  | 2, _, _ =>
    have := itR1_nat (n := 2) (by decide)
    simp [List.range_succ] at this
    simp [b66, this, need_len, toLine, forL, addL, addT]
    rfl
def nx (W : List (List Nat)) (i : Nat) : Nat := ((W[i]?.getD [])[0]?).getD 0
theorem foldl_it {β : Type} (f : Nat → Nat) : ∀ (xs : List β) (x : Nat), xs.foldl (fun a _ => f a) x = it f xs.length x
  | [], _ => rfl
  | _ :: xs, x => by
    rw [List.foldl_cons, foldl_it f xs, it_f]
    rfl
theorem foldl_walk {β : Type} (f : Nat → Nat) : ∀ (xs : List β) (p : Nat × Nat), (xs.foldl (fun (p : Nat × Nat) _ => (f p.1, if f p.1 < p.2 then f p.1 else p.2)) p).2 = walkMin f xs.length p.1 p.2
  | [], _ => rfl
  | _ :: xs, p => by
    rw [List.foldl_cons, foldl_walk f xs]
    rfl
/-- ways of n states, with so many digit rows -/
structure Ways (W : List (List Nat)) (wide : Nat) : Prop where
  len : 0 < W.length ∧ W.length ≤ 6
  wd : 0 < wide ∧ wide ≤ 4
  wide : ∀ r ∈ W, r.length = wide
  low : ∀ r ∈ W, ∀ x ∈ r, x < W.length
theorem Ways.nx_lt {W : List (List Nat)} {wide : Nat} (h : Ways W wide) {i : Nat} (hi : i < W.length) : nx W i < W.length ∧ (subD (.tup (W.map dRow)) (.int (i : Nat))).bind (fun d => subD d (.int 0)) = M.pure (.int (nx W i : Nat)) := by
  have e : W[i]? = some W[i] := List.getElem?_eq_getElem hi
  have hr : W[i] ∈ W := List.getElem_mem hi
  have hl := h.wide _ hr
  have h0 : 0 < W[i].length := by have := h.wd; omega
  have e2 : W[i][0]? = some W[i][0] := List.getElem?_eq_getElem h0
  have e3 : nx W i = W[i][0] := by unfold nx; rw [e, Option.getD_some, e2, Option.getD_some]
  constructor
  · rw [e3]; exact h.low _ hr _ (List.getElem_mem h0)
  · rw [subD_tup, atI_ofNat, List.getElem?_map, e]
    simp [dRow, dNat, e3]
    rw [e2]
    rfl
theorem s_end {W : List (List Nat)} {wide : Nat} (h : Ways W wide) {i : Nat} (hi : i < W.length) : callF pg w (k + 1) 29 [.tup (W.map dRow), .int (i : Nat)] = M.pure (.int (ringEnd (nx W) W.length i : Nat)) := by
  rw [call_law_end]
  have hl := h.len
  simp [b67]
  rw [itR1_nat (to62 (by omega)), pure_bind']
  refine forL_then (e := fun (p : Nat) => D.int p) (fun (a : Nat) (j : Slot) => [.val (.tup (W.map dRow)), .val (.int (i : Nat)), .val (.int (a : Nat)), j, .un])
    (fun a _ => nx W a) (fun a => a < W.length) (xs := List.range W.length) (a := i) (j := .un) hi ?_ ?_
  · intro p hp a j ha
    obtain ⟨h1, h2⟩ := h.nx_lt ha
    refine ⟨h1, .val (.int p), ?_⟩
    simp at h2
    simp
    rw [← bind_assoc', h2]
    simp
  · intro j hI
    rw [foldl_it, List.length_range] at hI ⊢
    simp
    rw [itR1_nat (to62 (by omega)), pure_bind']
    refine forL_then (e := fun (p : Nat) => D.int p) (fun (a : Nat × Nat) (j : Slot) => [.val (.tup (W.map dRow)), .val (.int (i : Nat)), .val (.int (a.1 : Nat)), j, .val (.int (a.2 : Nat))])
      (fun p _ => (nx W p.1, if nx W p.1 < p.2 then nx W p.1 else p.2)) (fun a => a.1 < W.length) (xs := List.range W.length) (a := (it (nx W) W.length i, it (nx W) W.length i)) (j := j) hI ?_ ?_
    · intro p hp a j ha
      obtain ⟨h1, h2⟩ := h.nx_lt ha
      refine ⟨h1, .val (.int p), ?_⟩
      simp at h2
      simp
      rw [← bind_assoc', h2]
      simp
      by_cases e : nx W a.1 < a.2 <;> simp [e]
    · intro j hI
      simp
      rw [foldl_walk, List.length_range]
      rfl
theorem end_still {W : List (List Nat)} {wide : Nat} (h : Ways W wide) {i : Nat} (hi : i < W.length) : ringEnd (nx W) W.length (nx W i) = ringEnd (nx W) W.length i := ring_still (fun x hx => (h.nx_lt hx).1) hi
theorem end_lt {W : List (List Nat)} {wide : Nat} (h : Ways W wide) {i : Nat} (hi : i < W.length) : ringEnd (nx W) W.length i < W.length := by
  obtain ⟨⟨j, _, _, e⟩, _⟩ := ring_char (nx W) W.length i
  rw [e]
  exact it_lt (fun x hx => (h.nx_lt hx).1) hi j
end K69

set_option linter.all false
set_option autoImplicit false
set_option maxRecDepth 100000
set_option maxHeartbeats 1000000
namespace K69
open PySem PySem.Spec L2 Bc
variable {w k : Nat}
theorem rowsL_len {n : Nat} (h0 : 0 < n) (h : n ≤ 2) : (rowsL n).length = 2 ^ n := by
  match n, h0, h with
  | 1, _, _ => rfl
  | 2, _, _ => rfl
theorem good_of {ns : List Str} (hn : Nms ns) {W : List (List Nat)} (hW : Ways W (2 ^ ns.length)) {K : List Bool} (hK : K.length = W.length) (f : Nat → Bool) (hf : ∀ i, i < W.length → K[i]? = some (f i)) (hs : ∀ i, i < W.length → f (nx W i) = f i) : Good ⟨ns, W, K⟩ := by
  refine ⟨hn, hW.len, hW.wide, hW.low, hK, ?_⟩
  intro i hi
  have h1 := (hW.nx_lt hi).1
  show (K[nx W i]?).getD false = (K[i]?).getD false
  rw [hf i hi, hf _ h1, hs i hi]
theorem s_machine {p n : Nat} {b : Bool} {ns : List Str} (hN : Nms ns) (hn : n ≤ 700000) : Tri (Pur p n) (callF pg w (k + 2) 30 [.loc p, .lst b (ns.map .str)]) fun d s => (∃ m, d = dM m ∧ Good m ∧ m.nm = ns) ∧ Pur p (n + 40) s := by
  rw [call_law_machine]
  have hl := hN.len
  simp [b68]
  refine Tri.bindF (s_draw (many := 6) (by decide) (by decide) (by omega)) fun d hd => ?_
  obtain ⟨j, rfl, hj⟩ := hd
  simp
  rw [s_lrows hl.1 hl.2, pure_bind']
  simp [need_len, toLine, rowsL_len hl.1 hl.2]
  have h4 : 0 < 2 ^ ns.length ∧ 2 ^ ns.length ≤ 4 := ⟨Nat.pow_pos (by decide), Nat.pow_le_pow_right (n := 2) (by decide) hl.2⟩
  rw [show (1 : Int) + (j : Int) = ((1 + j : Nat) : Int) by omega, itR1_nat (to62 (by omega)), pure_bind']
  refine Tri.bindF (Tri.noX (Tri.pre (tri_mapP (P := fun y => ∃ r, y = dRow r ∧ (r.length = 2 ^ ns.length ∧ ∀ x ∈ r, x < 1 + j)) (I := fun m s => Pur p (n + 1 + 4 * m) s) (N := 6) (n := 0) ?_ (by simp; omega)) fun s hs => hs)) fun ys hys => ?_
  · intro x hx m hm Q hQ
    rw [show (2 : Int) ^ ns.length = ((2 ^ ns.length : Nat) : Int) by simp]
    simp
    rw [show (2 : Int) ^ ns.length = ((2 ^ ns.length : Nat) : Int) by simp, itR1_nat (to62 (by omega)), pure_bind']
    refine Tri.bindF (Tri.noX (Tri.pre (tri_mapP (P := fun y => ∃ r : Nat, y = .int r ∧ r < 1 + j) (I := fun i s => Pur p (n + 1 + 4 * m + i) s) (N := 4) (n := 0) ?_ (by simp; omega)) fun s hs => hs)) fun ys hys => ?_
    · intro y hy i hi Q hQ
      try simp
      refine Tri.bindF (s_draw (many := 1 + j) (by omega) (by omega) (by omega)) fun d hd => ?_
      refine Tri.pure fun s hs => hQ _ _ ?_ hs
      exact hd
    · obtain ⟨zs, rfl, h1, h2⟩ := lift_map (g := fun r : Nat => D.int r) (G := fun r => r < 1 + j) hys.2
      rw [hys.1, List.length_map, List.length_range] at h1
      simp [need_len, toLine (show zs.length ≤ 16777216 by omega)]
      refine Tri.pure fun s hs => hQ _ _ ⟨zs, rfl, h1, h2⟩ (hs.mono (by omega))
  obtain ⟨W, rfl, h1, h2⟩ := lift_map (g := dRow) (G := fun r => r.length = 2 ^ ns.length ∧ ∀ x ∈ r, x < 1 + j) hys.2
  rw [hys.1, List.length_map, List.length_range] at h1
  simp [need_len, toLine (show W.length ≤ 16777216 by omega)]
  refine Tri.bindF (Tri.noX (Tri.pre (tri_mapP (P := fun y => ∃ r : Bool, y = .bl r ∧ True) (I := fun m s => Pur p (n + 30 + m) s) (N := 6) (n := 0) ?_ (by simp; omega)) fun s hs => hs.mono (by omega))) fun ys hys => ?_
  · intro x hx m hm Q hQ
    try simp
    refine Tri.bindF (s_draw (many := 3) (by decide) (by decide) (by omega)) fun d hd => ?_
    obtain ⟨i, rfl, hi⟩ := hd
    simp
    exact Tri.pure fun s hs => hQ _ _ ⟨_, rfl, trivial⟩ hs
  obtain ⟨fs, rfl, g1, g2⟩ := lift_map (g := D.bl) (G := fun _ => True) hys.2
  rw [hys.1, List.length_map, List.length_range] at g1
  simp [need_len, toLine (show fs.length ≤ 16777216 by omega)]
  have hW : Ways W (2 ^ ns.length) := ⟨by omega, h4, fun r hr => (h2 r hr).1, fun r hr x hx => by rw [h1]; exact (h2 r hr).2 x hx⟩
  rw [mapO_map (g := fun (i : Nat) => .bl (fs[ringEnd (nx W) W.length i]?.getD false))]
  · simp [need_len, toLine (show 1 + j ≤ 16777216 by omega), toLine (show 3 ≤ 16777216 by omega)]
    refine Tri.pure fun s hs => ⟨⟨⟨ns, W, (List.range (1 + j)).map fun i => fs[ringEnd (nx W) W.length i]?.getD false⟩, ?_, ?_, rfl⟩, ?_⟩
    · simp [dM, dN, Function.comp_def]
    · refine good_of hN hW ?_ (fun i => fs[ringEnd (nx W) W.length i]?.getD false) ?_ ?_
      · rw [List.length_map, List.length_range, h1]
      · intro i hi
        rw [List.getElem?_map, List.getElem?_range (by omega)]
        rfl
      · intro i hi
        show fs[_]?.getD false = fs[_]?.getD false
        rw [end_still hW hi]
    · exact hs.mono (by omega)
  · intro i hi
    rw [List.mem_range] at hi
    have h5 : i < W.length := by omega
    have h6 := end_lt hW h5
    have h7 : ringEnd (nx W) W.length i < fs.length := by omega
    try simp
    rw [s_end hW h5, pure_bind', subD_lst, atI_ofNat]
    simp [h7]
end K69

set_option linter.all false
set_option autoImplicit false
set_option maxRecDepth 100000
set_option maxHeartbeats 1000000
namespace K69
open PySem PySem.Spec L2 Bc
variable {w k : Nat}
theorem Good.ways {m : Mach} (h : Good m) : Ways m.W (2 ^ m.nm.length) := ⟨h.len, ⟨Nat.pow_pos (by decide), Nat.pow_le_pow_right (n := 2) (by decide) h.nms.len.2⟩, h.wide, h.low⟩
theorem Good.mark {m : Mach} (h : Good m) {i : Nat} (hi : i < m.W.length) : m.K[i]? = some (m.K[i]?.getD false) := by
  rw [List.getElem?_eq_getElem (by rw [h.marks]; exact hi)]
  rfl
theorem s_more_marks {p n : Nat} {m : Mach} (hm : Good m) (hn : n ≤ 700000) : Tri (Pur p n) (callF pg w (k + 2) 31 [.loc p, dM m]) fun d s => (∃ m', d = dM m' ∧ Good m' ∧ m'.nm = m.nm) ∧ Pur p (n + 6) s := by
  rw [call_law_more_marks]
  have hl := hm.len
  have hW := hm.ways
  simp [b69, dM]
  rw [itR1_nat (to62 (by omega)), pure_bind']
  refine Tri.bindF (Tri.noX (Tri.pre (tri_mapP (P := fun y => ∃ r : Bool, y = .bl r ∧ True) (I := fun m s => Pur p (n + m) s) (N := 6) (n := 0) ?_ (by simp; omega)) fun s hs => hs)) fun ys hys => ?_
  · intro x hx m hm Q hQ
    try simp
    refine Tri.bindF (s_draw (many := 3) (by decide) (by decide) (by omega)) fun d hd => ?_
    obtain ⟨i, rfl, hi⟩ := hd
    simp
    exact Tri.pure fun s hs => hQ _ _ ⟨_, rfl, trivial⟩ hs
  obtain ⟨fs, rfl, g1, g2⟩ := lift_map (g := D.bl) (G := fun _ => True) hys.2
  rw [hys.1, List.length_map, List.length_range] at g1
  simp [need_len, toLine (show fs.length ≤ 16777216 by omega)]
  rw [mapO_map (g := fun (i : Nat) => .int (ringEnd (nx m.W) m.W.length i : Nat))]
  · simp [need_len, toLine (show m.W.length ≤ 16777216 by omega)]
    rw [mapO_map (g := fun (i : Nat) => .bl (m.K[i]?.getD false || fs[ringEnd (nx m.W) m.W.length i]?.getD false))]
    · simp [need_len, toLine (show m.W.length ≤ 16777216 by omega), toLine (show 3 ≤ 16777216 by omega)]
      refine Tri.pure fun s hs => ⟨⟨⟨m.nm, m.W, (List.range m.W.length).map fun i => m.K[i]?.getD false || fs[ringEnd (nx m.W) m.W.length i]?.getD false⟩, ?_, ?_, rfl⟩, ?_⟩
      · simp [dM, dN, Function.comp_def]
      · refine good_of hm.nms hW ?_ (fun i => m.K[i]?.getD false || fs[ringEnd (nx m.W) m.W.length i]?.getD false) ?_ ?_
        · rw [List.length_map, List.length_range]
        · intro i hi
          rw [List.getElem?_map, List.getElem?_range hi]
          rfl
        · intro i hi
          show (m.K[nx m.W i]?.getD false || fs[_]?.getD false) = (_ || fs[_]?.getD false)
          rw [end_still hW hi]
          have : m.K[nx m.W i]?.getD false = m.K[i]?.getD false := hm.still i hi
          rw [this]
      · exact hs.mono (by simp; omega)
    · intro i hi
      rw [List.mem_range] at hi
      have h6 := end_lt hW hi
      have h7 : ringEnd (nx m.W) m.W.length i < fs.length := by omega
      have h8 := hm.mark hi
      try simp
      rw [atI_ofNat, List.getElem?_map, h8]
      simp
      cases m.K[i]?.getD false
      · simp [atI_ofNat, hi, h7]
      · simp
  · intro i hi
    rw [List.mem_range] at hi
    try simp
    rw [s_end hW hi]
    simp
end K69

set_option linter.all false
set_option autoImplicit false
set_option maxRecDepth 100000
set_option maxHeartbeats 1000000
namespace K69
open PySem PySem.Spec L2 Bc
variable {w k : Nat}
theorem findIdx_str (x : Str) : ∀ ns : List Str, x ∈ ns → (ns.map PyData.str).findIdx? (fun z => PyData.eqv z (.str x)) = some (ns.idxOf x)
  | [], h => by cases h
  | y :: r, h => by
    rw [List.map_cons, List.findIdx?_cons, List.idxOf_cons]
    show (if (y == x) = true then some 0 else _) = _
    by_cases e : y = x
    · subst e; simp
    · have e' : (y == x) = false := by simpa using e
      have h' : x ∈ r := by
        cases h with
        | head => exact absurd rfl e
        | tail _ h => exact h
      rw [e', findIdx_str x r h']
      simp
theorem shaped_str {x : Str} (hx : okS x = true) : SeqAt.shaped (.str x) = true := by
  unfold SeqAt.shaped
  rw [show PyData.canLay0 (.str x) = true from hx]
  rfl
theorem shaped_strs {ns : List Str} (h : ∀ y ∈ ns, okS y = true) : SeqAt.shaped (.list (ns.map PyData.str)) = true := by
  unfold SeqAt.shaped
  rw [show PyData.canLay0 (.list (ns.map PyData.str)) = true by unfold PyData.canLay0; exact canAll_str ns h, show PyData.depth (.list (ns.map PyData.str)) = 1 by unfold PyData.depth; rw [depthAll_str]]
  rfl
theorem s_index {ns : List Str} {x : Str} {b : Bool} (h : ∀ y ∈ ns, okS y = true) (hx : x ∈ ns) : bmD .index (.lst b (ns.map .str)) [.str x] = M.pure (.int (ns.idxOf x : Nat)) := by
  show (ofOpt (toPy (.str x))).bind (fun d => (ofOpt (toPys (ns.map .str))).bind fun es => (need (SeqAt.shaped d && SeqAt.shaped (.list es))).bind fun _ => (ofOpt (es.findIdx? fun z => PyData.eqv z d)).bind fun j => (pure (D.int (j : Nat)) : M D)) = _
  rw [show toPy (.str x) = some (.str x) from rfl, ofOpt_some', pure_bind', toPys_str, ofOpt_some', pure_bind', shaped_str (h x hx), shaped_strs h]
  rw [findIdx_str x ns hx]
  simp
theorem s_after {m : Mach} (hm : Good m) {st : Nat} {ns : List Str} {ds : List Nat} {dig : D} {b : Bool} (hn : Nms ns) (hsub : ∀ x ∈ m.nm, x ∈ ns) (h : ∀ d ∈ ds, d ≤ 1) (hl : ds.length = ns.length) (hs : st < m.W.length) (hd : ∀ i, subD dig (.int i) = ofOpt (L2.atI (dNat ds) i)) :
    callF pg w (k + 1) 32 [dM m, .int (st : Nat), .lst b (ns.map .str), dig] = M.pure (.int (step m st ns ds : Nat)) := by
  rw [call_law_after]
  obtain ⟨r, e1, e2, _⟩ := step_lt (ns := ns) hm h hs
  have hln := hm.nms.len
  have hget : ∀ x ∈ m.nm, subD dig (.int (ns.idxOf x : Nat)) = M.pure (.int (((ds[ns.idxOf x]?).getD 0 : Nat) : Int)) := by
    intro x hx
    rw [hd, atI_ofNat]
    have : ns.idxOf x < ds.length := by rw [hl]; exact List.idxOf_lt_length_of_mem (hsub x hx)
    simp [dNat, this]
  have hle : ∀ x ∈ m.nm, (ds[ns.idxOf x]?).getD 0 ≤ 1 := fun x hx => own_le (m := m) (ns := ns) h _ (List.mem_map_of_mem hx)
  have hix : ∀ x ∈ m.nm, bmD .index (.lst true (ns.map .str)) [.str x] = M.pure (.int (ns.idxOf x : Nat)) := fun x hx => s_index hn.ok (hsub x hx)
  have fin : (ofOpt (L2.atI (m.W.map dRow) (st : Nat))).bind (fun d => subD d (.int (ixOf (own m ns ds) : Nat))) = M.pure (.int (step m st ns ds : Nat)) := by
    rw [atI_ofNat, List.getElem?_map, e1]
    simp [dRow, atI_ofNat, dNat, e2]
  revert fin
  unfold own
  have m0 := mul2 (a := 0) (by omega)
  simp at m0
  simp [b70, dM]
  rw [show dN m.nm = .tup (m.nm.map .str) from rfl]
  simp
  match m.nm, hln, hget, hle, hix with
  | [x], _, hget, hle, hix =>
    have g1 := hget x (by simp)
    have g2 := hix x (by simp)
    simp [forL, g1, g2, binD_mul m0, ixOf]
  | [x, y], _, hget, hle, hix =>
    have g1 := hget x (by simp)
    have g2 := hix x (by simp)
    have g3 := hget y (by simp)
    have g4 := hix y (by simp)
    have g5 := hle x (by simp)
    have m1 := mul2 (a := (ds[ns.idxOf x]?).getD 0) (by omega)
    simp [forL, g1, g2, g3, g4, binD_mul m0, binD_mul m1, ixOf]
end K69

set_option linter.all false
set_option autoImplicit false
set_option maxRecDepth 100000
set_option maxHeartbeats 1000000
namespace K69
open PySem PySem.Spec L2 Bc
variable {w k : Nat}
abbrev P2 := Nat × Nat
def dP (p : P2) : D := .tup [.int (p.1 : Nat), .int (p.2 : Nat)]
def encP : Enc dP 1 := Enc.nat.pair Enc.nat
def succ (a b : Mach) (ns : List Str) (p : P2) : List P2 := (rowsL ns.length).map fun r => (step a p.1 ns r, step b p.2 ns r)
theorem rowsL_ok {n : Nat} (h0 : 0 < n) (h : n ≤ 2) : ∀ r ∈ rowsL n, r.length = n ∧ ∀ d ∈ r, d ≤ 1 := by
  match n, h0, h with
  | 1, _, _ => simp [rowsL]
  | 2, _, _ => simp [rowsL]
/-- two machines, and names that hold theirs -/
structure Both (a b : Mach) (ns : List Str) : Prop where
  ga : Good a
  gb : Good b
  hn : Nms ns
  sa : ∀ x ∈ a.nm, x ∈ ns
  sb : ∀ x ∈ b.nm, x ∈ ns
def InR (a b : Mach) (p : P2) : Prop := p.1 < a.W.length ∧ p.2 < b.W.length
theorem succ_inR {a b : Mach} {ns : List Str} (h : Both a b ns) {p q : P2} (hp : InR a b p) (hq : q ∈ succ a b ns p) : InR a b q := by
  unfold succ at hq
  rw [List.mem_map] at hq
  obtain ⟨r, hr, rfl⟩ := hq
  have := rowsL_ok h.hn.len.1 h.hn.len.2 r hr
  exact ⟨(step_lt (ns := ns) h.ga this.2 hp.1).elim fun _ h => h.2.2, (step_lt (ns := ns) h.gb this.2 hp.2).elim fun _ h => h.2.2⟩
theorem s_following {a b : Mach} {ns : List Str} (h : Both a b ns) {p : P2} (hp : InR a b p) {f : Bool} :
    callF pg w (k + 2) 33 [dM a, dM b, .lst f (ns.map .str), dP p] = M.pure (.lst true ((succ a b ns p).map dP)) := by
  rw [call_law_following]
  have hl := h.hn.len
  simp [b71]
  rw [s_lrows hl.1 hl.2, pure_bind']
  simp
  rw [mapO_map (g := fun r => dP (step a p.1 ns r, step b p.2 ns r))]
  · have h3 : (rowsL ns.length).length ≤ 4 := by rw [rowsL_len hl.1 hl.2]; exact Nat.pow_le_pow_right (n := 2) (by decide) hl.2
    simp [need_len, toLine (show (rowsL ns.length).length ≤ 16777216 by omega), succ, Function.comp_def]
  · intro r hr
    obtain ⟨r1, r2⟩ := rowsL_ok hl.1 hl.2 r hr
    have s1 := s_after (w := w) (k := k) (b := f) (dig := dRow r) h.ga h.hn h.sa r2 r1 hp.1 (fun i => rfl)
    have s2 := s_after (w := w) (k := k) (b := f) (dig := dRow r) h.gb h.hn h.sb r2 r1 hp.2 (fun i => rfl)
    simp [dP, s1, s2, need_len, toLine]
/-! ### the pairs that are met, in plain Lean -/
def addNew (fw : List P2 × List P2) (q : P2) : List P2 × List P2 := if q ∈ fw.1 then fw else (fw.1 ++ [q], fw.2 ++ [q])
theorem addNew_all : ∀ (qs f v : List P2), ∃ new, qs.foldl addNew (f, v) = (f ++ new, v ++ new) ∧ (∀ x ∈ new, x ∈ qs ∧ x ∉ f) ∧ new.Nodup ∧ ∀ q ∈ qs, q ∈ f ∨ q ∈ new
  | [], f, v => ⟨[], by simp⟩
  | q :: qs, f, v => by
    rw [List.foldl_cons]
    by_cases h : q ∈ f
    · have e : addNew (f, v) q = (f, v) := if_pos h
      obtain ⟨new, h1, h2, h3, h4⟩ := addNew_all qs f v
      refine ⟨new, by rw [e, h1], fun x hx => ⟨List.mem_cons_of_mem _ (h2 x hx).1, (h2 x hx).2⟩, h3, ?_⟩
      intro x hx
      cases hx with
      | head => exact .inl h
      | tail _ hx => exact h4 x hx
    · have e : addNew (f, v) q = (f ++ [q], v ++ [q]) := if_neg h
      obtain ⟨new, h1, h2, h3, h4⟩ := addNew_all qs (f ++ [q]) (v ++ [q])
      refine ⟨q :: new, by rw [e, h1]; simp, ?_, ?_, ?_⟩
      · intro x hx
        cases hx with
        | head => exact ⟨List.mem_cons_self .., h⟩
        | tail _ hx =>
          have := h2 x hx
          exact ⟨List.mem_cons_of_mem _ this.1, fun hf => this.2 (List.mem_append_left _ hf)⟩
      · rw [List.nodup_cons]
        exact ⟨fun hq => (h2 q hq).2 (by simp), h3⟩
      · intro x hx
        cases hx with
        | head => exact .inr (List.mem_cons_self ..)
        | tail _ hx =>
          rcases h4 x hx with h5 | h5
          · rw [List.mem_append] at h5
            rcases h5 with h5 | h5
            · exact .inl h5
            · have : x = q := by simpa using h5
              subst this
              exact .inr (List.mem_cons_self ..)
          · exact .inr (List.mem_cons_of_mem _ h5)
structure Met (a b : Mach) (ns : List Str) (F : List P2) : Prop where
  nodup : F.Nodup
  inr : ∀ p ∈ F, InR a b p
  zero : (0, 0) ∈ F
  pred : ∀ p ∈ F, p ≠ (0, 0) → ∃ q ∈ F, q ≠ p ∧ p ∈ succ a b ns q
  ind : ∀ P : P2 → Prop, P (0, 0) → (∀ p, P p → ∀ q ∈ succ a b ns p, P q) → ∀ p ∈ F, P p
/-- .. under way: v waits -/
structure MetW (a b : Mach) (ns : List Str) (F v : List P2) : Prop extends Met a b ns F where
  sub : ∀ p ∈ v, p ∈ F
  done : ∀ p ∈ F, p ∈ v ∨ ∀ q ∈ succ a b ns p, q ∈ F
theorem nodup_map {α β : Type} {f : α → β} (hf : ∀ x y, f x = f y → x = y) : ∀ {xs : List α}, xs.Nodup → (xs.map f).Nodup
  | [], _ => List.nodup_nil
  | x :: xs, h => by
    rw [List.nodup_cons] at h
    rw [List.map_cons, List.nodup_cons]
    refine ⟨fun hm => ?_, nodup_map hf h.2⟩
    rw [List.mem_map] at hm
    obtain ⟨y, hy, e⟩ := hm
    exact h.1 (hf _ _ e ▸ hy)
theorem nodup_inj {xs : List P2} (h : xs.Nodup) (hr : ∀ p ∈ xs, p.1 < 6 ∧ p.2 < 6) : (xs.map fun p => 6 * p.1 + p.2).Nodup := by
  induction xs with
  | nil => exact List.nodup_nil
  | cons x xs ih =>
    rw [List.nodup_cons] at h
    rw [List.map_cons, List.nodup_cons]
    refine ⟨fun hm => ?_, ih h.2 fun p hp => hr p (List.mem_cons_of_mem _ hp)⟩
    rw [List.mem_map] at hm
    obtain ⟨y, hy, e⟩ := hm
    have h1 := hr x (List.mem_cons_self ..)
    have h2 := hr y (List.mem_cons_of_mem _ hy)
    have : y = x := Prod.ext (by omega) (by omega)
    exact h.1 (this ▸ hy)
theorem Met.six {a b : Mach} {ns : List Str} {F : List P2} (h : Met a b ns F) (hh : Both a b ns) : ∀ p ∈ F, p.1 < 6 ∧ p.2 < 6 := by
  intro p hp
  have := h.inr p hp
  have h1 := hh.ga.len
  have h2 := hh.gb.len
  exact ⟨by have := this.1; omega, by have := this.2; omega⟩
theorem few {xs : List P2} (h : xs.Nodup) (hr : ∀ p ∈ xs, p.1 < 6 ∧ p.2 < 6) : xs.length ≤ 36 := by
  have := nodup_le (nodup_inj h hr) (n := 36) (by
    intro x hx
    rw [List.mem_map] at hx
    obtain ⟨p, hp, rfl⟩ := hx
    have := hr p hp
    omega)
  rwa [List.length_map] at this
theorem met_step {a b : Mach} {ns : List Str} {F v : List P2} {p0 : P2} (hh : Both a b ns) (h : MetW a b ns F (p0 :: v)) :
    ∃ F' v', (succ a b ns p0).foldl addNew (F, v) = (F', v') ∧ MetW a b ns F' v' ∧ 2 * (36 - F'.length) + v'.length < 2 * (36 - F.length) + (p0 :: v).length ∧ v'.length + F.length = v.length + F'.length := by
  obtain ⟨new, h1, h2, h3, h4⟩ := addNew_all (succ a b ns p0) F v
  have hp0 : p0 ∈ F := h.sub p0 (List.mem_cons_self ..)
  have hin : ∀ p ∈ F ++ new, InR a b p := by
    intro p hp
    rw [List.mem_append] at hp
    rcases hp with hp | hp
    · exact h.inr p hp
    · exact succ_inR hh (h.inr p0 hp0) (h2 p hp).1
  have hM : Met a b ns (F ++ new) := by
    refine ⟨?_, hin, List.mem_append_left _ h.zero, ?_, ?_⟩
    · rw [List.nodup_append]
      exact ⟨h.nodup, h3, fun x hx y hy e => (h2 y hy).2 (e ▸ hx)⟩
    · intro p hp hz
      rw [List.mem_append] at hp
      rcases hp with hp | hp
      · obtain ⟨q, g1, g2, g3⟩ := h.pred p hp hz
        exact ⟨q, List.mem_append_left _ g1, g2, g3⟩
      · exact ⟨p0, List.mem_append_left _ hp0, fun e => (h2 p hp).2 (e ▸ hp0), (h2 p hp).1⟩
    · intro P z s p hp
      rw [List.mem_append] at hp
      rcases hp with hp | hp
      · exact h.ind P z s p hp
      · exact s p0 (h.ind P z s p0 hp0) p (h2 p hp).1
  refine ⟨_, _, h1, ⟨hM, ?_, ?_⟩, ?_, by rw [List.length_append, List.length_append]; omega⟩
  · intro p hp
    rw [List.mem_append] at hp ⊢
    rcases hp with hp | hp
    · exact .inl (h.sub p (List.mem_cons_of_mem _ hp))
    · exact .inr hp
  · intro p hp
    rw [List.mem_append] at hp
    rcases hp with hp | hp
    · rcases h.done p hp with g | g
      · cases g with
        | head =>
          right
          intro q hq
          rw [List.mem_append]
          exact h4 q hq
        | tail _ g => exact .inl (List.mem_append_left _ g)
      · exact .inr fun q hq => List.mem_append_left _ (g q hq)
    · exact .inl (List.mem_append_right _ hp)
  · have := few hM.nodup (hM.six hh)
    rw [List.length_append] at this ⊢
    rw [List.length_append, List.length_cons]
    omega
theorem met_start {a b : Mach} {ns : List Str} (hh : Both a b ns) : MetW a b ns [(0, 0)] [(0, 0)] := by
  refine ⟨⟨by simp, ?_, by simp, ?_, ?_⟩, fun p hp => hp, fun p hp => .inl hp⟩
  · intro p hp
    have : p = (0, 0) := by simpa using hp
    subst this
    exact ⟨hh.ga.len.1, hh.gb.len.1⟩
  · intro p hp hz
    exact absurd (by simpa using hp) hz
  · intro P z s p hp
    have : p = (0, 0) := by simpa using hp
    subst this
    exact z
end K69

set_option linter.all false
set_option autoImplicit false
set_option maxRecDepth 100000
set_option maxHeartbeats 1000000
namespace K69
open PySem PySem.Spec L2 Bc
variable {w k : Nat}
theorem cut_from1 (xs : List D) : cutD xs (some 1) none = xs.drop 1 := cut_from xs 1
theorem encP_nil (v : List P2) (b b' : Bool) : cmpD .NotEq (.lst b (v.map dP)) (.lst b' []) = M.pure (.bl (!decide (v = []))) := by
  cases b <;> cases b' <;> exact cmpD_ne ((encP.lst true).eqD (by decide) v [])
structure MetP (a b : Mach) (ns : List Str) (F : List P2) : Prop extends Met a b ns F where
  closed : ∀ p ∈ F, ∀ q ∈ succ a b ns p, q ∈ F
theorem s_met {a b : Mach} {ns : List Str} (hh : Both a b ns) {f : Bool} (hw : 100 ≤ w) :
    Ret (callF pg w (k + 3) 34 [dM a, dM b, .lst f (ns.map .str)]) fun r => ∃ F, r = .lst true (F.map dP) ∧ MetP a b ns F := by
  rw [call_law_met]
  simp [b72, need_len, toLine]
  refine whileL_ret
    (fun (s : (List P2 × List P2) × (Slot × Slot)) => [.val (dM a), .val (dM b), .val (.lst f (ns.map .str)), .val (.lst true (s.1.1.map dP)), .val (.lst true (s.1.2.map dP)), s.2.1, s.2.2])
    (fun s => !decide (s.1.2 = [])) (fun s => MetW a b ns s.1.1 s.1.2 ∧ s.1.2.length ≤ s.1.1.length) (fun s => 2 * (36 - s.1.1.length) + s.1.2.length)
    (a := (([(0, 0)], [(0, 0)]), (.un, .un))) ⟨met_start hh, Nat.le_refl _⟩ (by show 2 * (36 - 1) + 1 < w; omega) ?_ ?_ ?_
  · intro s hs
    simp [need_len, toLine, encP_nil]
  · intro s hs hc
    obtain ⟨⟨F, v⟩, j1, j2⟩ := s
    obtain ⟨hs, hl⟩ := hs
    have hs : MetW a b ns F v := hs
    have hl : v.length ≤ F.length := hl
    have hF := few hs.nodup (hs.toMet.six hh)
    match v, hs, hl, hc with
    | p0 :: v, hs, hl, hc =>
      obtain ⟨F', v', g1, g2, g3, g4⟩ := met_step hh hs
      have hp0 := hs.inr p0 (hs.sub p0 (List.mem_cons_self ..))
      rw [List.length_cons] at hl
      have hF' := few g2.nodup (g2.toMet.six hh)
      simp [cut_from1, need_len, toLine, s_following hh hp0]
      refine forL_ret (e := dP) (fun (s : List P2 × List P2) (j : Slot) => [.val (dM a), .val (dM b), .val (.lst f (ns.map .str)), .val (.lst true (s.1.map dP)), .val (.lst true (s.2.map dP)), j, .val (dP p0)])
        addNew (fun s => s.1.Nodup ∧ (∀ p ∈ s.1, p.1 < 6 ∧ p.2 < 6) ∧ s.2.length ≤ s.1.length) (xs := succ a b ns p0) (a := (F, v)) (j := j1) ⟨hs.nodup, hs.toMet.six hh, by show v.length ≤ F.length; omega⟩ ?_ ?_
      · intro q hq s j hI
        obtain ⟨i1, i2, i3⟩ := hI
        have i4 := few i1 i2
        have hq6 : q.1 < 6 ∧ q.2 < 6 := by
          have := succ_inR hh hp0 hq
          have h1 := hh.ga.len
          have h2 := hh.gb.len
          exact ⟨by have := this.1; omega, by have := this.2; omega⟩
        by_cases e : q ∈ s.1
        · have e1 : addNew s q = s := if_pos e
          rw [e1]
          refine ⟨⟨i1, i2, i3⟩, ?_⟩
          simp [encP.notIn (by decide), e]
          exact Ret.pure ⟨_, rfl⟩
        · have e1 : addNew s q = (s.1 ++ [q], s.2 ++ [q]) := if_neg e
          rw [e1]
          refine ⟨⟨?_, ?_, ?_⟩, ?_⟩
          · show (s.1 ++ [q]).Nodup
            rw [List.nodup_append]
            exact ⟨i1, by simp, fun x hx y hy he => e (by have : y = q := by simpa using hy
                                                          rw [← this, ← he]; exact hx)⟩
          · intro p hp
            have hp : p ∈ s.1 ++ [q] := hp
            rw [List.mem_append] at hp
            rcases hp with hp | hp
            · exact i2 p hp
            · have : p = q := by simpa using hp
              rw [this]; exact hq6
          · show (s.2 ++ [q]).length ≤ (s.1 ++ [q]).length
            rw [List.length_append, List.length_append]
            omega
          · simp [encP.notIn (by decide), e, need_len, toLine]
            rw [binD_addL (by rw [List.length_map]; exact toLine (by simp; omega)), pure_bind', binD_addL (by rw [List.length_map]; exact toLine (by simp; omega)), pure_bind']
            exact Ret.pure ⟨_, rfl⟩
      · intro j hI
        rw [g1] at hI ⊢
        simp
        refine Ret.pure ⟨F', v', ⟨_, _, rfl⟩, ⟨g2, ?_⟩, ?_⟩
        · omega
        · have := g3
          rw [List.length_cons] at this
          exact this
  · intro s hs hc
    obtain ⟨⟨F, v⟩, j1, j2⟩ := s
    have hs : MetW a b ns F v := hs.1
    have hc : v = [] := by simpa using hc
    subst hc
    simp
    exact Ret.pure ⟨F, rfl, ⟨hs.toMet, fun p hp => (hs.done p hp).elim (fun h => by cases h) id⟩⟩
end K69

set_option linter.all false
set_option autoImplicit false
set_option maxRecDepth 100000
set_option maxHeartbeats 1000000
namespace K69
open PySem PySem.Spec L2 Bc
variable {w k : Nat}
def code (p : P2) : Nat := 6 * p.1 + p.2
def insP (x : P2) : List P2 → List P2
  | [] => [x]
  | y :: r => if code x ≤ code y then x :: y :: r else y :: insP x r
def ord : List P2 → List P2
  | [] => []
  | x :: r => insP x (ord r)
theorem insI_P (x : P2) : ∀ F : List P2, insI (code x : Nat) (F.map fun p => ((code p : Nat) : Int)) = (insP x F).map fun p => ((code p : Nat) : Int)
  | [] => rfl
  | y :: r => by
    rw [List.map_cons]
    unfold insI insP
    by_cases h : code x ≤ code y
    · rw [if_pos h, if_pos (by omega)]; rfl
    · rw [if_neg h, if_neg (by omega), insI_P x r]; rfl
theorem sortI_P : ∀ F : List P2, sortI (F.map fun p => ((code p : Nat) : Int)) = (ord F).map fun p => ((code p : Nat) : Int)
  | [] => rfl
  | x :: r => by
    rw [List.map_cons]
    unfold sortI ord
    rw [sortI_P r, insI_P]
theorem mem_insP {x z : P2} : ∀ {F : List P2}, z ∈ insP x F ↔ z = x ∨ z ∈ F
  | [] => by unfold insP; simp
  | y :: r => by
    unfold insP
    by_cases h : code x ≤ code y
    · rw [if_pos h]; simp
    · rw [if_neg h, List.mem_cons, mem_insP, List.mem_cons]
      constructor
      · rintro (h | h | h)
        · exact .inr (.inl h)
        · exact .inl h
        · exact .inr (.inr h)
      · rintro (h | h | h)
        · exact .inr (.inl h)
        · exact .inl h
        · exact .inr (.inr h)
theorem mem_ord {z : P2} : ∀ {F : List P2}, z ∈ ord F ↔ z ∈ F
  | [] => by unfold ord; simp
  | x :: r => by unfold ord; rw [mem_insP, mem_ord, List.mem_cons]
theorem len_insP {x : P2} : ∀ {F : List P2}, (insP x F).length = F.length + 1
  | [] => rfl
  | y :: r => by
    unfold insP
    by_cases h : code x ≤ code y
    · rw [if_pos h]; simp
    · rw [if_neg h, List.length_cons, len_insP, List.length_cons]
theorem len_ord : ∀ {F : List P2}, (ord F).length = F.length
  | [] => rfl
  | x :: r => by unfold ord; rw [len_insP, len_ord, List.length_cons]
/-- ascending by their codes -/
def Asc (F : List P2) : Prop := F.Pairwise fun p q => code p < code q
theorem asc_insP {x : P2} : ∀ {F : List P2}, Asc F → (∀ y ∈ F, code x ≠ code y) → Asc (insP x F)
  | [], _, _ => by unfold insP; exact List.pairwise_singleton ..
  | y :: r, h, hx => by
    unfold Asc at h
    rw [List.pairwise_cons] at h
    unfold insP
    by_cases e : code x ≤ code y
    · rw [if_pos e]
      have h1 := hx y (List.mem_cons_self ..)
      unfold Asc
      rw [List.pairwise_cons, List.pairwise_cons]
      refine ⟨fun z hz => ?_, h⟩
      cases hz with
      | head => omega
      | tail _ hz => have := h.1 z hz; omega
    · rw [if_neg e]
      unfold Asc
      rw [List.pairwise_cons]
      refine ⟨fun z hz => ?_, asc_insP h.2 fun z hz => hx z (List.mem_cons_of_mem _ hz)⟩
      rw [mem_insP] at hz
      rcases hz with rfl | hz
      · omega
      · exact h.1 z hz
theorem code_inj {p q : P2} (hp : p.2 < 6) (hq : q.2 < 6) (h : code p = code q) : p = q := by
  unfold code at h
  exact Prod.ext (by omega) (by omega)
theorem asc_ord : ∀ {F : List P2}, F.Nodup → (∀ p ∈ F, p.1 < 6 ∧ p.2 < 6) → Asc (ord F)
  | [], _, _ => List.Pairwise.nil
  | x :: r, h, h6 => by
    rw [List.nodup_cons] at h
    unfold ord
    refine asc_insP (asc_ord h.2 fun p hp => h6 p (List.mem_cons_of_mem _ hp)) fun y hy e => ?_
    rw [mem_ord] at hy
    have := code_inj (h6 x (List.mem_cons_self ..)).2 (h6 y (List.mem_cons_of_mem _ hy)).2 e
    exact h.1 (this ▸ hy)
theorem s_ordered {F : List P2} {f : Bool} (h : ∀ p ∈ F, p.1 < 6 ∧ p.2 < 6) (hl : F.length ≤ 1000) : callF pg w (k + 1) 35 [.lst f (F.map dP)] = M.pure (.tup ((ord F).map dP)) := by
  rw [call_law_ordered]
  simp [b73]
  rw [mapO_map (g := fun p => D.int ((code p : Nat) : Int))]
  · simp [need_len, toLine (show F.length ≤ 16777216 by omega)]
    have e : bSorted [.lst true (F.map fun p => D.int ((code p : Nat) : Int))] = M.pure (.lst true ((ord F).map fun p => D.int ((code p : Nat) : Int))) := by
      show (ofOpt (sortD _)).bind _ = _
      unfold sortD
      rw [asInts_map (fun p : P2 => ((code p : Nat) : Int))]
      simp [sortI_P, Function.comp_def]
    simp [e]
    rw [mapO_map (g := dP)]
    · simp [need_len, len_ord, toLine (show F.length ≤ 16777216 by omega)]
    · intro p hp
      have := h p (mem_ord.1 hp)
      simp
      rw [binD_div (pyDiv_small (by decide) (by decide)), pure_bind', binD_mod (by decide), pure_bind']
      simp [need_len, toLine, dP, code]
      rw [show (6 * (p.1 : Int) + (p.2 : Int)) / 6 = (p.1 : Int) by omega, show (p.2 : Int) % 6 = (p.2 : Int) by omega]
  · intro p hp
    have := h p hp
    simp [dP]
    rw [binD_mul (mulOk_small (by decide) (by omega)), pure_bind']
    simp [code]
def mkAt (m : Mach) (i : Nat) : Bool := m.K[i]?.getD false
def badPair (a b : Mach) (p : P2) : Bool := mkAt a p.1 && !mkAt b p.2
theorem Good.mkE {m : Mach} (h : Good m) {i : Nat} (hi : i < m.W.length) : m.K[i]? = some (mkAt m i) := h.mark hi
theorem s_marks_right {a b : Mach} (ha : Good a) (hb : Good b) {F : List P2} {X : D} (hX : X = .tup (F.map dP) ∨ ∃ f, X = .lst f (F.map dP)) (h : ∀ p ∈ F, InR a b p) (hl : F.length ≤ 1000) :
    callF pg w (k + 1) 36 [dM a, dM b, X] = M.pure (.bl (!F.any (badPair a b))) := by
  have hX : itSeq [X] = M.pure (F.map dP) := by
    rcases hX with rfl | ⟨f, rfl⟩ <;> rfl
  rw [call_law_marks_right]
  simp [b74, hX]
  rw [mapO_map (g := fun p => .bl (badPair a b p))]
  · simp [need_len, toLine (show F.length ≤ 16777216 by omega), bAny_map]
  · intro p hp
    obtain ⟨p1, p2⟩ := p
    obtain ⟨h1, h2⟩ := h _ hp
    have h1 : a.K[p1]? = some (mkAt a p1) := ha.mkE h1
    have h2 : b.K[p2]? = some (mkAt b p2) := hb.mkE h2
    simp [dP, dM, atI_ofNat, h1, badPair]
    cases mkAt a p1 <;> simp [h2, atI_ofNat]
end K69

set_option linter.all false
set_option autoImplicit false
set_option maxRecDepth 100000
set_option maxHeartbeats 1000000
namespace K69
open PySem PySem.Spec L2 Bc
variable {w k : Nat}
theorem bits_lt (n t : Nat) : t < Builtin.Int.intBits (n : Int) ↔ 0 < n / 2 ^ t := by
  unfold Builtin.Int.intBits
  rw [Nat.div_pos_iff]
  by_cases h : n = 0
  · subst h
    have : ¬ (2 ^ t ≤ 0) := by have := Nat.pow_pos (n := t) (show 0 < 2 by decide); omega
    simp
  · have h1 : ((n : Int) == 0) = false := by simpa using h
    rw [h1]
    have h2 : (n : Int).natAbs = n := by omega
    rw [h2]
    have := Nat.le_log2 (k := t) h
    have h3 := Nat.pow_pos (n := t) (show 0 < 2 by decide)
    simp
    omega
theorem maxBits_lt (t : Nat) : ∀ (ns : List Nat) (a : Nat), t < maxBits ns a ↔ t < a ∨ ∃ n ∈ ns, 0 < n / 2 ^ t
  | [], a => by unfold maxBits; simp
  | n :: r, a => by
    unfold maxBits
    rw [maxBits_lt t r]
    have h := bits_lt n t
    simp only [List.mem_cons, exists_eq_or_imp]
    by_cases e : Builtin.Int.intBits (n : Int) < a
    · rw [if_pos e]
      constructor
      · rintro (h1 | h1)
        · exact .inl h1
        · exact .inr (.inr h1)
      · rintro (h1 | h1 | h1)
        · exact .inl h1
        · exact .inl (by have := h.2 h1; omega)
        · exact .inr h1
    · rw [if_neg e]
      constructor
      · rintro (h1 | h1)
        · exact .inr (.inl (h.1 h1))
        · exact .inr (.inr h1)
      · rintro (h1 | h1 | h1)
        · exact .inl (by omega)
        · exact .inl (h.2 h1)
        · exact .inr h1
theorem runTo_succ (m : Mach) (ns : List Str) (nums : List Nat) (t : Nat) : runTo m ns nums (t + 1) = step m (runTo m ns nums t) ns (digs nums t) := by
  unfold runTo
  rw [List.range_succ, List.foldl_append]
  rfl
theorem runTo_lt {m : Mach} (hm : Good m) (ns : List Str) (nums : List Nat) : ∀ t, runTo m ns nums t < m.W.length
  | 0 => hm.len.1
  | t + 1 => by
    rw [runTo_succ]
    obtain ⟨_, _, _, h⟩ := step_lt (ns := ns) hm (digs_le (ns := nums) (p := t)) (runTo_lt hm ns nums t)
    exact h
def leftAt (nums : List Nat) : Nat → List Nat
  | 0 => nums
  | t + 1 => (leftAt nums t).map fun n => n / 2
theorem leftAt_eq (nums : List Nat) : ∀ t, leftAt nums t = nums.map fun n => n / 2 ^ t
  | 0 => by simp [leftAt]
  | t + 1 => by
    unfold leftAt
    rw [leftAt_eq nums t, List.map_map]
    apply List.map_congr_left
    intro n hn
    simp [Nat.pow_succ, Nat.div_div_eq_div_mul]
theorem s_runs {m : Mach} (hm : Good m) {ns : List Str} {nums : List Nat} {f g : Bool} (hn : Nms ns) (hsub : ∀ x ∈ m.nm, x ∈ ns) (hl : nums.length = ns.length) (hw : maxBits nums 0 < w) :
    callF pg w (k + 2) 37 [dM m, .lst f (ns.map .str), .lst g (dNat nums)] = M.pure (.bl (mkAt m (runTo m ns nums (maxBits nums 0)))) := by
  rw [call_law_runs]
  have hl2 := hn.len
  simp [b75, need_len, toLine]
  refine whileL_then
    (fun (t : Nat) => [.val (dM m), .val (.lst f (ns.map .str)), .val (.lst g (dNat nums)), .val (.int (runTo m ns nums t : Nat)), .val (.lst true (dNat (leftAt nums t))), .un])
    (fun t => decide (t < maxBits nums 0)) (fun t => t ≤ maxBits nums 0) (fun t => maxBits nums 0 - t) (a := 0) (Nat.zero_le _) (by omega) ?_ ?_ ?_
  rotate_right
  · intro t hI hc
    have hc := of_decide_eq_false hc
    have : t = maxBits nums 0 := by omega
    subst this
    have h2 := hm.mkE (runTo_lt hm ns nums (maxBits nums 0))
    simp [dM, atI_ofNat, h2]
  · intro t hI
    simp [dNat]
    rw [mapO_map (g := fun n => .bl (decide (0 < n)))]
    · have hll : (leftAt nums t).length = nums.length := by rw [leftAt_eq, List.length_map]
      simp [need_len, hll, toLine (show nums.length ≤ 16777216 by omega), bAny_map]
      congr 1
      rw [leftAt_eq, Bool.eq_iff_iff, List.any_eq_true, decide_eq_true_eq, maxBits_lt]
      constructor
      · rintro ⟨x, h1, h2⟩
        rw [List.mem_map] at h1
        obtain ⟨n, h3, rfl⟩ := h1
        exact .inr ⟨n, h3, by simpa using h2⟩
      · rintro (h | ⟨n, h1, h2⟩)
        · omega
        · exact ⟨n / 2 ^ t, List.mem_map_of_mem h1, by simpa using h2⟩
    · intro n hn
      simp
  · intro t hI hc
    have hc := of_decide_eq_true hc
    refine ⟨t + 1, ?_, hc, by omega⟩
    have hmod : ∀ x : Int, binD .Mod (.int x) (.int 2) = M.pure (.int (x % 2)) := fun x => binD_mod (by decide)
    have hdiv : ∀ x : Int, binD .FloorDiv (.int x) (.int 2) = M.pure (.int (x / 2)) := fun x => binD_div (pyDiv_small (by decide) (by decide))
    have hll : (leftAt nums t).length = nums.length := by rw [leftAt_eq, List.length_map]
    simp [dNat]
    rw [mapO_map (g := fun n => .int ((n % 2 : Nat) : Int))]
    · have e := s_after (w := w) (k := k) (b := f) (dig := .lst true (dNat (digs nums t))) hm hn hsub (digs_le (ns := nums) (p := t)) (by unfold digs; simpa using hl) (runTo_lt hm ns nums t) (fun i => rfl)
      have e2 : ((leftAt nums t).map fun n => D.int ((n % 2 : Nat) : Int)) = dNat (digs nums t) := by rw [leftAt_eq]; simp [dNat, digs, Function.comp_def]
      rw [e2]
      simp [need_len, dNat, digs, toLine (show nums.length ≤ 16777216 by omega)] at e ⊢
      rw [e]
      simp
      rw [mapO_map (g := fun n => .int ((n / 2 : Nat) : Int))]
      · simp [need_len, hll, toLine (show nums.length ≤ 16777216 by omega), runTo_succ, digs, leftAt, Function.comp_def]
      · intro n hn
        simp [hdiv]
    · intro n hn
      simp [hmod]
end K69

set_option linter.all false
set_option autoImplicit false
set_option maxRecDepth 100000
set_option maxHeartbeats 1000000
namespace K69
open PySem PySem.Spec L2 Bc
variable {w k : Nat}
def isPair (na nb : Nat) : D → Bool
  | .tup [x, y] => isState na x && isState nb y
  | _ => false
def dec : D → P2
  | .tup [.int i, .int j] => (i.toNat, j.toNat)
  | _ => (0, 0)
theorem isState_nat {n : Nat} {d : D} (h : isState n d = true) : ∃ i : Nat, d = .int i ∧ i < n := by
  cases d with
  | int i =>
    unfold isState at h
    rw [Bool.and_eq_true] at h
    have h1 := of_decide_eq_true h.1
    have h2 := of_decide_eq_true h.2
    exact ⟨i.toNat, by rw [Int.toNat_of_nonneg h1], by omega⟩
  | _ => cases h
theorem isPair_dP {na nb : Nat} {d : D} (h : isPair na nb d = true) : ∃ p : P2, d = dP p ∧ (p.1 < na ∧ p.2 < nb) := by
  unfold isPair at h
  split at h
  · rename_i x y
    rw [Bool.and_eq_true] at h
    obtain ⟨i, rfl, hi⟩ := isState_nat h.1
    obtain ⟨j, rfl, hj⟩ := isState_nat h.2
    exact ⟨(i, j), rfl, hi, hj⟩
  · cases h
def ltP (p q : P2) : Bool := decide (p.1 < q.1 ∨ p.1 = q.1 ∧ p.2 < q.2)
theorem dec_dP (p : P2) : dec (dP p) = p := by simp [dec, dP]
theorem lt_dP (p q : P2) : cmpD .Lt (dP p) (dP q) = M.pure (.bl (ltP p q)) := by
  have : ltD (dP p) (dP q) = some (ltP p q) := by
    show some (HT.lexLt [(p.1 : Int), (p.2 : Int)] [(q.1 : Int), (q.2 : Int)]) = _
    congr 1
    rw [HT.lexLt_cons, HT.lexLt_cons, HT.lexLt_nil_nil]
    unfold ltP
    by_cases h1 : p.1 = q.1
    · rw [if_pos (by omega)]
      by_cases h2 : p.2 = q.2
      · rw [if_pos (by omega), decide_eq_false (by omega)]
      · rw [if_neg (by omega), decide_eq_decide]
        omega
    · rw [if_neg (by omega), decide_eq_decide]
      omega
  unfold cmpD
  rw [this]
  rfl
def okPs (na nb : Nat) (xs : List D) : Bool := (decide (0 < xs.length) && decide (xs.length ≤ 4096)) && xs.all (isPair na nb) && (decide ((xs.map dec)[0]? = some (0, 0)) && ascB ltP (xs.map dec))
def okP (na nb : Nat) : D → Bool
  | .tup xs => okPs na nb xs
  | _ => false
theorem any_not {α : Type} (p : α → Bool) (xs : List α) : xs.any (fun d => !p d) = !xs.all p := by
  induction xs with
  | nil => rfl
  | cons x xs ih => rw [List.any_cons, ih, List.all_cons, Bool.not_and]
theorem s_are_pairs {a b : Mach} {v : D} (h : plain v = true) : callF pg w (k + 3) 14 [v, dM a, dM b] = M.pure (.bl (okP a.W.length b.W.length v)) := by
  rw [call_are_pairs]
  cases v with
  | tup xs =>
    have h := plains_mem (show plains xs = true from h)
    show _ = (M.pure (D.bl (okPs a.W.length b.W.length xs)) : M D)
    by_cases g1 : 0 < xs.length
    · by_cases g2 : xs.length ≤ 4096
      · have g2' : (xs.length : Int) ≤ 4096 := by omega
        simp [b34, g1, g2']
        refine forL_find0_then (fun (j : Slot) => [.val (.tup xs), .val (dM a), .val (dM b), j, .un]) (fun d => !isPair a.W.length b.W.length d) (.bl false) (j := .un) ?_ ?_
        · intro d hd j
          have hp := h d hd
          refine ⟨.val d, ?_⟩
          cases d with
          | tup ys =>
            have hy := plains_mem (show plains ys = true from hp)
            by_cases h2 : ys.length = 2
            · match ys, h2, hy with
              | [x, y], _, hy =>
                have hx := s_is_state (w := w) (k := k) (n := a.W.length) (hy x (by simp))
                have hy := s_is_state (w := w) (k := k) (n := b.W.length) (hy y (by simp))
                simp [dM, hx, hy, isPair]
                cases isState a.W.length x <;> cases isState b.W.length y <;> simp [hy]
            · have : isPair a.W.length b.W.length (.tup ys) = false := by
                match ys, h2 with
                | [], _ => rfl
                | [_], _ => rfl
                | _ :: _ :: _ :: _, _ => rfl
                | [_, _], h => exact absurd rfl h
              simp [this, show ¬ (ys.length : Int) = 2 by omega]
          | _ => first | (simp [isPair]; done) | (unfold plain at hp; cases hp)
        · intro j
          rw [any_not]
          cases e : xs.all (isPair a.W.length b.W.length) with
          | false => simp [okPs, e]
          | true =>
            obtain ⟨F, rfl, hF, hG⟩ := lift_map (g := dP) (G := fun p => p.1 < a.W.length ∧ p.2 < b.W.length) fun y hy => isPair_dP (List.all_eq_true.1 e y hy)
            rw [List.length_map] at g1 g2
            have hdec : (F.map dP).map dec = F := by rw [List.map_map, show dec ∘ dP = id from funext dec_dP, List.map_id]
            simp [okPs, e, hdec, g1, g2]
            have e00 : F[0]? = some F[0] := List.getElem?_eq_getElem g1
            have e0 : cmpD .Eq (dP F[0]) (.tup [.int 0, .int 0]) = M.pure (.bl (decide (F[0] = (0, 0)))) := encP.eq (by decide) F[0] (0, 0)
            simp [need_len, toLine, e0]
            by_cases e0 : F[0] = (0, 0)
            · simp [e0]
              rw [itR2_1 (to62 (by omega)), pure_bind']
              rw [mapO_map (g := fun m => .bl (ltO ltP (F[m]?) (F[m + 1]?)))]
              · simp [need_len, toLine (show F.length - 1 ≤ 16777216 by omega), bAll_map, ascB]
              · intro m hm
                rw [List.mem_range] at hm
                have h4 : m < F.length := by omega
                have h5 : m + 1 < F.length := by omega
                simp [cast_pred]
                rw [show (((m : Nat) : Int) + 1) = ((m + 1 : Nat) : Int) by omega, atI_ofNat, atI_ofNat]
                simp [h4, h5, lt_dP, ltO]
            · simp [e0]
      · simp [b34, g1, okPs, g2, show ¬ (xs.length : Int) ≤ 4096 by omega]
    · simp [b34, g1, okPs]
  | _ => first | (simp [b34, okP]; done) | (unfold plain at h; cases h)
end K69

set_option linter.all false
set_option autoImplicit false
set_option maxRecDepth 100000
set_option maxHeartbeats 1000000
namespace K69
open PySem PySem.Spec L2 Bc
variable {w k : Nat}
def keyP (p : P2) : List L2.Key := [.inl (p.1 : Nat), .inl (p.2 : Nat)]
theorem keyP_inj {p q : P2} (h : keyP p = keyP q) : p = q := by
  unfold keyP at h
  simp at h
  exact Prod.ext (by omega) (by omega)
@[simp] theorem bLen_dN (ns : List Str) : bLen [dN ns] = M.pure (.int (ns.length : Nat)) := by
  show (M.pure (D.int ((ns.map D.str).length : Nat)) : M D) = _
  rw [List.length_map]
@[simp] theorem dM_0 (m : Mach) : subD (dM m) (.int 0) = M.pure (dN m.nm) := (rfl)
@[simp] theorem dM_1 (m : Mach) : subD (dM m) (.int 1) = M.pure (.tup (m.W.map dRow)) := (rfl)
@[simp] theorem dM_2 (m : Mach) : subD (dM m) (.int 2) = M.pure (.tup (m.K.map .bl)) := (rfl)
theorem Good.at {m : Mach} (h : Good m) {i : Nat} (hi : i < m.W.length) : L2.atI (m.K.map D.bl) (i : Nat) = some (.bl (mkAt m i)) := by
  rw [atI_ofNat, List.getElem?_map, h.mkE hi]
  rfl
def leads (a b : Mach) (ns : List Str) (F : List P2) (p : P2) : Bool := (succ a b ns p).any fun q => !decide (q ∈ F)
theorem s_is_closed {a b : Mach} {ns : List Str} {F : List P2} (h : Both a b ns) (hF : ∀ p ∈ F, InR a b p) (hl : F.length ≤ 4096) :
    callF pg w (k + 3) 15 [.tup (F.map dP), dM a, dM b, dN ns] = M.pure (.bl (!F.any fun p => badPair a b p || leads a b ns F p)) := by
  rw [call_is_closed]
  have hn := h.hn.len
  obtain ⟨kvs, e1, e2, e3⟩ := foldD_keys (e := dP) (key := keyP) (v := .bl true) (xs := F) (acc := [])
    (f := fun d => (asgT (cl w (k + 2)) (.nm 9) d (Bc.wipe [.val (.tup (F.map dP)), .val (dM a), .val (dM b), .val (dN ns), .un, .un, .un, .un, .un, .un] [9])).bind fun env1 => (evCs (cl w (k + 2)) .nil env1).bind fun b => if b then (evE (cl w (k + 2)) (.var 9) env1).bind fun y => (evE (cl w (k + 2)) (.bl true) env1).bind fun z => (ofOpt (keyT y)).bind fun k => M.pure (some (k, z)) else M.pure none)
    (fun x hx => by
      simp [Bc.wipe]
      rfl) (by simp; omega)
  have e4 : ∀ q : P2, cmpD .NotIn (.tup [.int (q.1 : Nat), .int (q.2 : Nat)]) (.dT true kvs) = M.pure (.bl (!decide (q ∈ F))) := by
    intro q
    refine cmpD_notin ?_
    have : inD (.tup [.int (q.1 : Nat), .int (q.2 : Nat)]) (.dT true kvs) = some (dVal kvs (keyP q)).isSome := rfl
    rw [this, e3]
    congr 1
    show (false || _) = _
    rw [Bool.eq_iff_iff, Bool.false_or, List.any_eq_true, decide_eq_true_eq]
    exact ⟨fun ⟨x, hx, e⟩ => keyP_inj (of_decide_eq_true e) ▸ hx, fun hq => ⟨q, hq, decide_eq_true rfl⟩⟩
  simp at e1
  simp [b35, e1]
  have e5 : kvs.length ≤ 4096 := by simp at e2; omega
  simp [need_len, toLine (show kvs.length ≤ 16777216 by omega)]
  rw [s_rowsC hn.2, pure_bind']
  refine Ret.eq ?_
  refine forL_find_ret (e := dP) (fun (j : Slot × Slot × Slot) => [.val (.tup (F.map dP)), .val (dM a), .val (dM b), .val (dN ns), .val (.dT true kvs), .val (.lst true ((rowsL ns.length).map dRow)), j.1, j.2.1, j.2.2, .un]) (fun p => badPair a b p || leads a b ns F p) (.bl false) (j := (.un, .un, .un)) ?_ ?_
  · intro p hp j Q hQ
    obtain ⟨h1, h2⟩ := hF p hp
    have g1 := h.ga.mkE h1
    have g2 := h.gb.mkE h2
    obtain ⟨p1, p2⟩ := p
    simp at h1 h2 g1 g2
    have key : leads a b ns F (p1, p2) = (rowsL ns.length).any fun r => !decide ((step a p1 ns r, step b p2 ns r) ∈ F) := by
      unfold leads succ
      rw [List.any_map]
      rfl
    have fin : ∀ j3 : Slot, badPair a b (p1, p2) = false → Ret ((forL (fun d env1 => (asgT (cl w (k + 2)) (.nm 8) d env1).bind fun env2 => evSs (cl w (k + 2)) w (.cons (.ite (.cmp .NotIn (.tup (.cons (.call 12 (.cons (.var 1) (.cons (.var 6) (.cons (.var 3) (.cons (.var 8) .nil))))) (.cons (.call 12 (.cons (.var 2) (.cons (.var 7) (.cons (.var 3) (.cons (.var 8) .nil))))) .nil))) (.var 4)) (.cons (.ret (.bl false)) .nil) .nil) .nil) env2) ((rowsL ns.length).map dRow) [.val (.tup (F.map dP)), .val (dM a), .val (dM b), .val (dN ns), .val (.dT true kvs), .val (.lst true ((rowsL ns.length).map dRow)), .val (.int (p1 : Nat)), .val (.int (p2 : Nat)), j3, .un]).bind (seqM fun env1 => M.pure (.nx, env1))) Q := by
      intro j3 hb
      refine forL_find_ret (e := dRow) (fun (j : Slot) => [.val (.tup (F.map dP)), .val (dM a), .val (dM b), .val (dN ns), .val (.dT true kvs), .val (.lst true ((rowsL ns.length).map dRow)), .val (.int (p1 : Nat)), .val (.int (p2 : Nat)), j, .un]) (fun r => !decide ((step a p1 ns r, step b p2 ns r) ∈ F)) (.bl false) (j := j3) ?_ ?_
      · intro r hr j Q hQ
        obtain ⟨r1, r2⟩ := rowsL_ok hn.1 hn.2 r hr
        have s1 := s_follower (w := w) (k := k) (dig := dRow r) h.ga h.hn h.sa r2 r1 h1 (fun i => rfl)
        have s2 := s_follower (w := w) (k := k) (dig := dRow r) h.gb h.hn h.sb r2 r1 h2 (fun i => rfl)
        have s3 := e4 (step a p1 ns r, step b p2 ns r)
        simp at s3
        simp [s1, s2, need_len, toLine, s3]
        have q := hQ (.val (dRow r))
        simp at q
        by_cases e : (step a p1 ns r, step b p2 ns r) ∈ F
        · simp [e] at q ⊢
          exact Ret.pure q
        · simp [e] at q ⊢
          exact Ret.pure q
      · intro j
        rw [← key]
        have q := hQ (.val (.int (p1 : Nat)), .val (.int (p2 : Nat)), j)
        simp [hb] at q
        cases e : leads a b ns F (p1, p2) <;> simp [e] at q ⊢ <;> exact Ret.pure q
    simp at fin
    have a1 := h.ga.at h1
    have a2 := h.gb.at h2
    simp [dP]
    rw [a1, ofOpt_some', pure_bind']
    cases m1 : mkAt a p1 with
    | false =>
      simp
      exact fin _ (by simp [badPair, m1])
    | true =>
      simp
      rw [a2, ofOpt_some', pure_bind']
      cases m2 : mkAt b p2 with
      | true =>
        simp
        exact fin _ (by simp [badPair, m1, m2])
      | false =>
        have q := hQ (.val (.int (p1 : Nat)), .val (.int (p2 : Nat)), j.2.2)
        simp [badPair, m1, m2] at q
        simp
        exact Ret.pure q
  · intro j
    cases F.any fun p => badPair a b p || leads a b ns F p <;> simp <;> exact Ret.pure rfl
end K69

set_option linter.all false
set_option autoImplicit false
set_option maxRecDepth 100000
set_option maxHeartbeats 1000000
namespace K69
open PySem PySem.Spec L2 Bc
variable {w k : Nat}
def isNum (x : Str) : D → Bool
  | .tup [.str y, .int n] => (y == x) && decide (0 ≤ n)
  | _ => false
def isStr : D → Bool
  | .str _ => true
  | _ => false
theorem isi_str {d : D} (h : plain d = true) : isiDs d [.str] = some (isStr d) := by
  cases d <;> first | rfl | (unfold plain at h; cases h)
theorem plain_str {x : Str} (h : plain (.str x) = true) : okS x = true := by
  have h : (decide (x.length ≤ LINE) && okS x) = true := h
  rw [Bool.and_eq_true] at h
  exact h.2
theorem s_is_number_of {d : D} (h : plain d = true) {x : Str} (hx : okS x = true) : callF pg w (k + 2) 18 [d, .str x] = M.pure (.bl (isNum x d)) := by
  rw [call_is_number_of]
  cases d with
  | tup xs =>
    have h := plains_mem (show plains xs = true from h)
    by_cases h1 : xs.length = 2
    · match xs, h1, h with
      | [a, b], _, h =>
        have ha := h a (by simp)
        have hb := s_is_whole (w := w) (k := k) (h b (by simp))
        cases a with
        | str y =>
          simp [b51, cmpD_ne_s (plain_str ha) hx]
          by_cases e : y = x
          · subst e
            simp [hb]
            cases b <;> simp [isNum, isW]
          · have e' : (y == x) = false := by simpa using e
            cases b <;> simp [isNum, e, e']
        | _ => first | (simp [b51, isNum]; done) | (unfold plain at ha; cases ha)
    · have : isNum x (.tup xs) = false := by
        match xs, h1 with
        | [], _ => rfl
        | [_], _ => simp [isNum]
        | _ :: _ :: _ :: _, _ => simp [isNum]
        | [_, _], h => exact absurd rfl h
      simp [b51, this, show ¬ (xs.length : Int) = 2 by omega]
  | _ => first | (simp [b51, isNum]; done) | (unfold plain at h; cases h)
def numsB (ns : List Str) : D → Bool
  | .tup xs => decide (xs.length = ns.length) && (xs.zip ns).all fun p => isNum p.2 p.1
  | _ => false
theorem s_are_numbers {v : D} (h : plain v = true) {ns : List Str} (hn : Nms ns) : callF pg w (k + 3) 19 [v, dN ns] = M.pure (.bl (numsB ns v)) := by
  rw [call_are_numbers]
  cases v with
  | tup xs =>
    have h := plains_mem (show plains xs = true from h)
    by_cases g : xs.length = ns.length
    · simp [b52, g]
      rw [show dN ns = .tup (ns.map .str) from rfl, itZip_tt, pure_bind', List.zip_map_right, List.map_map]
      rw [mapO_map (g := fun p => .bl (isNum p.2 p.1))]
      · have hl := hn.len
        simp [need_len, g, toLine (show ns.length ≤ 16777216 by omega), bAll_map, numsB]
      · intro p hp
        obtain ⟨d, x⟩ := p
        have hz := List.of_mem_zip hp
        simp
        rw [s_is_number_of (h d hz.1) (hn.ok x hz.2)]
        simp
    · simp [b52, g, numsB, show ¬ (xs.length : Int) = (ns.length : Int) by omega]
  | _ => first | (simp [b52, numsB]; done) | (unfold plain at h; cases h)
def isEmp : D → Bool
  | .tup [] => true
  | _ => false
theorem s_is_empty {d : D} (h : plain d = true) : callF pg w (k + 1) 17 [d] = M.pure (.bl (isEmp d)) := by
  rw [call_is_empty]
  cases d with
  | tup xs =>
    cases xs with
    | nil => rfl
    | cons x xs =>
      have : ¬ ((xs.length : Int) + 1 = 0) := by omega
      simp [b50, isEmp, this]
  | _ => first | rfl | (unfold plain at h; cases h)
theorem plain_dRow (r : List Nat) : plain (dRow r) = true := by
  show plains (dNat r) = true
  refine plains_of fun x hx => ?_
  unfold dNat at hx
  rw [List.mem_map] at hx
  obtain ⟨_, _, rfl⟩ := hx
  rfl
theorem plain_dN {ns : List Str} (h : ∀ x ∈ ns, okS x = true ∧ x.length ≤ 100) : plain (dN ns) = true := by
  show plains (ns.map .str) = true
  refine plains_of fun x hx => ?_
  rw [List.mem_map] at hx
  obtain ⟨y, hy, rfl⟩ := hx
  obtain ⟨h1, h2⟩ := h y hy
  show (decide (y.length ≤ LINE) && okS y) = true
  rw [h1, decide_eq_true (toLine (show y.length ≤ 16777216 by omega))]
  rfl
theorem word_len {x : Str} (h : isWord (.str x) = true) : x.length ≤ 100 := by
  have h : (decide (0 < x.length) && decide (x.length ≤ 8) && x.cps.toList.all letter) = true := h
  rw [Bool.and_eq_true, Bool.and_eq_true] at h
  have := of_decide_eq_true h.1.2
  omega
theorem Nms.plain {ns : List Str} (h : Nms ns) : plain (dN ns) = true := plain_dN fun x hx => ⟨h.ok x hx, word_len (h.word x hx)⟩
theorem plain_dW (W : List (List Nat)) : plain (.tup (W.map dRow)) = true := by
  show plains (W.map dRow) = true
  refine plains_of fun x hx => ?_
  rw [List.mem_map] at hx
  obtain ⟨r, _, rfl⟩ := hx
  exact plain_dRow r
theorem plain_dK (K : List Bool) : plain (.tup (K.map .bl)) = true := by
  show plains (K.map .bl) = true
  refine plains_of fun x hx => ?_
  rw [List.mem_map] at hx
  obtain ⟨r, _, rfl⟩ := hx
  rfl
theorem Good.plain {m : Mach} (h : Good m) : plain (dM m) = true := by
  show plains [dN m.nm, .tup (m.W.map dRow), .tup (m.K.map .bl)] = true
  refine plains_of fun x hx => ?_
  simp at hx
  rcases hx with rfl | rfl | rfl
  · exact h.nms.plain
  · exact plain_dW _
  · exact plain_dK _
theorem isNames_dN {ns : List Str} (h : Nms ns) : isNames (dN ns) = true := by
  show (decide ((ns.map D.str).length ≤ 3) && ((ns.map D.str).all isWord && (match asStrs (ns.map .str) with
    | some ss => ascB ltS ss
    | none => false))) = true
  have h1 := h.len
  have h2 : (ns.map D.str).all isWord = true := by
    rw [List.all_map, List.all_eq_true]
    intro x hx
    exact h.word x hx
  rw [asStrs_map (fun x => x), h2, decide_eq_true (by rw [List.length_map]; omega)]
  simp [h.asc]
theorem isRow_dRow {r : List Nat} {wide many : Nat} (h : r.length = wide) (h' : ∀ x ∈ r, x < many) : isRow wide many (dRow r) = true := by
  show (decide ((dNat r).length = wide) && (dNat r).all (isState many)) = true
  unfold dNat
  rw [List.length_map, decide_eq_true h, List.all_map, Bool.true_and, List.all_eq_true]
  intro x hx
  have := h' x hx
  show (decide ((0 : Int) ≤ (x : Int)) && decide ((x : Int) < (many : Int))) = true
  rw [decide_eq_true (by omega), decide_eq_true (by omega)]
  rfl
theorem wayAt_dRow {W : List (List Nat)} {wide : Nat} (h : Ways W wide) {i : Nat} (hi : i < W.length) : wayAt (W.map dRow) i = nx W i := by
  have e : W[i]? = some W[i] := List.getElem?_eq_getElem hi
  have hl := h.wide _ (List.getElem_mem hi)
  have h0 := h.wd.1
  unfold wayAt nx
  rw [List.getElem?_map, e, Option.getD_some]
  match h2 : W[i], hl with
  | [], hl => simp at hl; omega
  | x :: r, _ => simp [dRow, dNat]
theorem markAt_bl (K : List Bool) (i : Nat) : markAt (K.map .bl) i = K[i]?.getD false := by
  unfold markAt
  rw [List.getElem?_map]
  cases K[i]? <;> rfl
theorem isMachB_dM {m : Mach} (h : Good m) : isMachB (dM m) = true := by
  show isMachT (dN m.nm) (m.W.map dRow) (m.K.map .bl) = true
  have hl := h.len
  have h1 : (m.W.map dRow).all (isRow (2 ^ tupLen (dN m.nm)) (m.W.map dRow).length) = true := by
    rw [List.all_map, List.all_eq_true]
    intro r hr
    show isRow _ _ (dRow r) = true
    refine isRow_dRow ?_ ?_
    · rw [h.wide r hr]
      show 2 ^ m.nm.length = 2 ^ (m.nm.map D.str).length
      rw [List.length_map]
    · rw [List.length_map]; exact h.low r hr
  have h2 : (m.K.map D.bl).all isBl = true := by
    rw [List.all_map, List.all_eq_true]
    intro r hr
    rfl
  have h3 : marksB (m.W.map dRow) (m.K.map .bl) = true := by
    unfold marksB
    rw [List.all_eq_true]
    intro i hi
    rw [List.mem_range, List.length_map] at hi
    rw [wayAt_dRow h.ways hi, markAt_bl, markAt_bl]
    have := h.still i hi
    unfold nx
    rw [this]
    simp
  unfold isMachT
  rw [isNames_dN h.nms, h1, h2, h3]
  simp
  refine ⟨⟨?_, ?_⟩, h.marks⟩
  · exact hl.1
  · omega
end K69

set_option linter.all false
set_option autoImplicit false
set_option maxRecDepth 100000
set_option maxHeartbeats 1000000
namespace K69
open PySem PySem.Spec L2 Bc
variable {w k : Nat}
theorem kg_within : kgetD ((cl w k).tab "LENGTHS") (.str "within") (.int 0) = M.pure (.int 3) := by kernel_rfl
theorem kg_outside : kgetD ((cl w k).tab "LENGTHS") (.str "outside") (.int 0) = M.pure (.int 4) := by kernel_rfl
theorem kg_inside : kgetD ((cl w k).tab "LENGTHS") (.str "inside") (.int 0) = M.pure (.int 0) := by kernel_rfl
theorem eq_wr : cmpD .Eq (.str "within") (.str "relation") = M.pure (.bl false) := by kernel_rfl
theorem eq_or : cmpD .Eq (.str "outside") (.str "relation") = M.pure (.bl false) := by kernel_rfl
theorem eq_ww : cmpD .Eq (.str "within") (.str "within") = M.pure (.bl true) := by kernel_rfl
theorem eq_ow : cmpD .Eq (.str "outside") (.str "within") = M.pure (.bl false) := by kernel_rfl
theorem in_w : cmpD .In (.str "within") (.tup [.str "within", .str "outside"]) = M.pure (.bl true) := by kernel_rfl
theorem in_o : cmpD .In (.str "outside") (.tup [.str "within", .str "outside"]) = M.pure (.bl true) := by kernel_rfl
theorem acc_within (A B c : D) : callF pg w (k + 1) 16 [.tup [.str "within", A, B], c] = callF pg w k 20 [.tup [.str "within", A, B], c] := by
  rw [call_accepts]
  have h := kg_within (w := w) (k := k)
  simp at h
  simp [b49, h, eq_wr, in_w, need_len, toLine]
theorem acc_outside (A B R c : D) : callF pg w (k + 1) 16 [.tup [.str "outside", A, B, R], c] = callF pg w k 20 [.tup [.str "outside", A, B, R], c] := by
  rw [call_accepts]
  have h := kg_outside (w := w) (k := k)
  simp at h
  simp [b49, h, eq_or, in_o, need_len, toLine]
theorem acc_short (A c : D) : callF pg w (k + 1) 16 [.tup [.str "within", A], c] = M.pure (.bl false) := by
  rw [call_accepts]
  have h := kg_within (w := w) (k := k)
  simp at h
  simp [b49, h]
theorem acc_inside (A B c : D) : callF pg w (k + 1) 16 [.tup [.str "inside", A, B], c] = M.pure (.bl false) := by
  rw [call_accepts]
  have h := kg_inside (w := w) (k := k)
  simp at h
  simp [b49, h]
theorem so_bad {A B : D} {t : Str} {r : List D} {c : D} (hA : plain A = true) (hB : plain B = true) (h : (isMachB A && isMachB B) = false) : callF pg w (k + 5) 20 [.tup (.str t :: A :: B :: r), c] = M.pure (.bl false) := by
  rw [call_are_machines_so]
  simp [b57, s_is_machine hA]
  cases e : isMachB A with
  | false => simp
  | true =>
    rw [e] at h
    simp at h
    simp [s_is_machine hB, h]
/-- names of a machine *)
-/
structure PN (x y : Str) (m : Mach) (i j : Bool) : Prop where
  good : Good m
  hij : (i || j) = true
  nm : m.nm = pick x y i j
theorem pick_sub {x y : Str} {i j i' j' : Bool} : (∀ z ∈ pick x y i j, z ∈ pick x y (i || i') (j || j')) ∧ ∀ z ∈ pick x y i' j', z ∈ pick x y (i || i') (j || j') := by
  cases i <;> cases j <;> cases i' <;> cases j' <;> simp [pick]
theorem both_of {x y : Str} {a b : Mach} {i j i' j' : Bool} (h : Two x y) (ha : PN x y a i j) (hb : PN x y b i' j') : Both a b (pick x y (i || i') (j || j')) := by
  have hij := ha.hij
  refine ⟨ha.good, hb.good, h.nms ?_, ?_, ?_⟩
  · revert hij
    cases i <;> cases j <;> cases i' <;> cases j' <;> simp
  · rw [ha.nm]; exact pick_sub.1
  · rw [hb.nm]; exact pick_sub.2
def closedV (a b : Mach) (ns : List Str) : D → Bool
  | .tup xs => !(xs.map dec).any fun p => badPair a b p || leads a b ns (xs.map dec) p
  | _ => false
theorem okP_get {na nb : Nat} {c : D} (h : okP na nb c = true) : ∃ F : List P2, c = .tup (F.map dP) ∧ (F.map dP).map dec = F ∧ (∀ p ∈ F, p.1 < na ∧ p.2 < nb) ∧ F.length ≤ 4096 := by
  cases c with
  | tup xs =>
    have h : okPs na nb xs = true := h
    unfold okPs at h
    rw [Bool.and_eq_true, Bool.and_eq_true, Bool.and_eq_true] at h
    obtain ⟨F, rfl, hF, hG⟩ := lift_map (g := dP) (G := fun p => p.1 < na ∧ p.2 < nb) fun y hy => isPair_dP (List.all_eq_true.1 h.1.2 y hy)
    refine ⟨F, rfl, ?_, hG, ?_⟩
    · rw [List.map_map, show dec ∘ dP = id from funext dec_dP, List.map_id]
    · have := of_decide_eq_true h.1.1.2
      rwa [List.length_map] at this
  | _ => cases h
theorem s_within {x y : Str} (h : Two x y) {a b : Mach} {i j i' j' : Bool} (ha : PN x y a i j) (hb : PN x y b i' j') {c : D} (hc : plain c = true) :
    callF pg w (k + 6) 16 [.tup [.str "within", dM a, dM b], c] = M.pure (.bl (okP a.W.length b.W.length c && closedV a b (pick x y (i || i') (j || j')) c)) := by
  rw [acc_within, call_are_machines_so]
  have hh := both_of h ha hb
  have e1 := s_names_of (w := w) (k := k + 3) h ha.hij hb.hij
  rw [← ha.nm, ← hb.nm] at e1
  have e2 := s_are_pairs (w := w) (k := k + 1) (a := a) (b := b) hc
  have hl := hh.hn.len
  simp [b57, s_is_machine ha.good.plain, s_is_machine hb.good.plain, isMachB_dM ha.good, isMachB_dM hb.good, need_len, toLine, e1, eq_ww, e2, show ¬ (3 : Int) < ((pick x y (i || i') (j || j')).length : Nat) by omega]
  cases e3 : okP a.W.length b.W.length c with
  | false => simp
  | true =>
    obtain ⟨F, rfl, g1, g2, g3⟩ := okP_get e3
    have e4 := s_is_closed (w := w) (k := k + 1) hh (F := F) g2 g3
    simp [e4]
    show _ = (M.pure (D.bl (!((F.map dP).map dec).any fun p => badPair a b p || leads a b (pick x y (i || i') (j || j')) ((F.map dP).map dec) p)) : M D)
    rw [g1]
theorem s_outside_no {x y : Str} (h : Two x y) {a b : Mach} {i j i' j' : Bool} (ha : PN x y a i j) (hb : PN x y b i' j') {r c : D} (hr : plain r = true) (hc : plain c = true) (hno : (isEmp c && numsB (pick x y (i || i') (j || j')) r) = false) :
    callF pg w (k + 6) 16 [.tup [.str "outside", dM a, dM b, r], c] = M.pure (.bl false) := by
  rw [acc_outside, call_are_machines_so]
  have hh := both_of h ha hb
  have e1 := s_names_of (w := w) (k := k + 3) h ha.hij hb.hij
  rw [← ha.nm, ← hb.nm] at e1
  have hl := hh.hn.len
  simp [b57, s_is_machine ha.good.plain, s_is_machine hb.good.plain, isMachB_dM ha.good, isMachB_dM hb.good, need_len, toLine, e1, eq_ow, show ¬ (3 : Int) < ((pick x y (i || i') (j || j')).length : Nat) by omega, s_is_empty hc]
  cases e3 : isEmp c with
  | false => simp
  | true =>
    rw [e3] at hno
    simp at hno
    simp [s_are_numbers hr hh.hn, hno]
def dRowN (ns : List Str) (nums : List Nat) : D := .tup ((ns.zip nums).map fun p => .tup [.str p.1, .int (p.2 : Nat)])
theorem numsB_row {ns : List Str} {nums : List Nat} (hl : nums.length = ns.length) : numsB ns (dRowN ns nums) = true := by
  show (decide (((ns.zip nums).map fun p => D.tup [.str p.1, .int (p.2 : Nat)]).length = ns.length) && _) = true
  rw [decide_eq_true (by rw [List.length_map, List.length_zip]; omega), Bool.true_and]
  clear hl
  induction ns generalizing nums with
  | nil => simp
  | cons x ns ih =>
    cases nums with
    | nil => simp
    | cons n nums =>
      rw [List.zip_cons_cons, List.map_cons, List.zip_cons_cons, List.all_cons, ih]
      simp [isNum]
theorem plain_row {ns : List Str} {nums : List Nat} (hn : Nms ns) : plain (dRowN ns nums) = true := by
  show plains ((ns.zip nums).map fun p => .tup [.str p.1, .int (p.2 : Nat)]) = true
  refine plains_of fun d hd => ?_
  rw [List.mem_map] at hd
  obtain ⟨⟨x, n⟩, hp, rfl⟩ := hd
  have hx := (List.of_mem_zip hp).1
  show plains [.str x, .int (n : Nat)] = true
  have h1 := hn.ok x hx
  have h2 := word_len (hn.word x hx)
  have : plain (.str x) = true := by
    show (decide (x.length ≤ LINE) && okS x) = true
    rw [h1, decide_eq_true (toLine (show x.length ≤ 16777216 by omega))]
    rfl
  unfold plains
  rw [this]
  rfl
theorem s_outside {x y : Str} (h : Two x y) {a b : Mach} {i j i' j' : Bool} (ha : PN x y a i j) (hb : PN x y b i' j') {nums : List Nat} (hl : nums.length = (pick x y (i || i') (j || j')).length) (hL : maxBits nums 0 ≤ 1000) :
    callF pg w (k + 6) 16 [.tup [.str "outside", dM a, dM b, dRowN (pick x y (i || i') (j || j')) nums], .tup []] = M.pure (.bl (mkAt a (runTo a (pick x y (i || i') (j || j')) nums (maxBits nums 0)) && !mkAt b (runTo b (pick x y (i || i') (j || j')) nums (maxBits nums 0)))) := by
  rw [acc_outside, call_are_machines_so]
  have hh := both_of h ha hb
  have e1 := s_names_of (w := w) (k := k + 3) h ha.hij hb.hij
  rw [← ha.nm, ← hb.nm] at e1
  have hl2 := hh.hn.len
  have e2 := s_is_empty (w := w) (k := k + 3) (d := .tup []) rfl
  generalize hns : pick x y (i || i') (j || j') = ns at *
  have e3 := s_are_numbers (w := w) (k := k + 1) (plain_row (nums := nums) hh.hn) hh.hn
  rw [numsB_row hl] at e3
  have e4 := s_keeps (w := w) (k := k + 1) hh.ga hh.hn hh.sa hl hL
  have e5 := s_keeps (w := w) (k := k + 1) hh.gb hh.hn hh.sb hl hL
  simp [b57, s_is_machine ha.good.plain, s_is_machine hb.good.plain, isMachB_dM ha.good, isMachB_dM hb.good, need_len, toLine, e1, eq_ow, e2, e3, isEmp, show ¬ (3 : Int) < ((ns.length : Nat) : Int) by omega]
  rw [show itSeq [dRowN ns nums] = M.pure ((ns.zip nums).map fun p => .tup [.str p.1, .int (p.2 : Nat)]) from rfl, pure_bind']
  rw [mapO_map (g := fun p => .int (p.2 : Nat))]
  · have e6 : (ns.zip nums).map (fun p => D.int (p.2 : Nat)) = dNat nums := by
      have : (ns.zip nums).map Prod.snd = nums := List.map_snd_zip (by omega)
      unfold dNat
      rw [← this, List.map_map, this]
      rfl
    rw [e6]
    have e7 : (dNat nums).length ≤ 16777216 := by unfold dNat; rw [List.length_map]; omega
    simp [need_len, toLine e7, e4]
    unfold mkAt
    cases a.K[runTo a ns nums (maxBits nums 0)]?.getD false <;> simp [e5]
  · intro p hp
    simp
end K69

set_option linter.all false
set_option autoImplicit false
set_option maxRecDepth 100000
set_option maxHeartbeats 1000000
namespace K69
open PySem PySem.Spec L2 Bc
variable {w k : Nat}
theorem cut_succ (xs : List D) (n : Nat) : cutD xs (some ((n : Int) + 1)) none = xs.drop (n + 1) := by
  rw [show ((n : Int) + 1) = ((n + 1 : Nat) : Int) by omega, cut_from]
theorem cut_to_1 (xs : List D) : cutD xs none (some 1) = xs.take 1 := cut_to xs 1
theorem ascB_of {α : Type} {lt : α → α → Bool} {R : α → α → Prop} (h : ∀ a b, R a b → lt a b = true) {xs : List α} (hp : xs.Pairwise R) : ascB lt xs = true := by
  unfold ascB
  rw [List.all_eq_true]
  intro i hi
  rw [List.mem_range] at hi
  have h1 : i < xs.length := by omega
  have h2 : i + 1 < xs.length := by omega
  rw [List.getElem?_eq_getElem h1, List.getElem?_eq_getElem h2]
  exact h _ _ (List.pairwise_iff_getElem.1 hp i (i + 1) h1 h2 (by omega))
theorem ascB_get {α : Type} {lt : α → α → Bool} {xs : List α} (h : ascB lt xs = true) {i : Nat} {a b : α} (ha : xs[i]? = some a) (hb : xs[i + 1]? = some b) : lt a b = true := by
  unfold ascB at h
  rw [List.all_eq_true] at h
  have h2 : i + 1 < xs.length := by
    rw [List.getElem?_eq_some_iff] at hb
    exact hb.1
  have := h i (List.mem_range.2 (by omega))
  rw [ha, hb] at this
  exact this
theorem isPair_ok {na nb : Nat} {p : P2} (h : p.1 < na ∧ p.2 < nb) : isPair na nb (dP p) = true := by
  show (isState na (.int (p.1 : Nat)) && isState nb (.int (p.2 : Nat))) = true
  simp [isState, h]
theorem map_dec (F : List P2) : (F.map dP).map dec = F := by rw [List.map_map, show dec ∘ dP = id from funext dec_dP, List.map_id]
theorem head_zero {F : List P2} (h : Asc F) (h0 : (0, 0) ∈ F) : ∃ r, F = (0, 0) :: r := by
  cases F with
  | nil => cases h0
  | cons p r =>
    cases h0 with
    | head => exact ⟨r, rfl⟩
    | tail _ h0 =>
      unfold Asc at h
      rw [List.pairwise_cons] at h
      have := h.1 _ h0
      exact absurd this (Nat.not_lt_zero _)
theorem asc_lt {na nb : Nat} {p q : P2} (hp : p.2 < 6) (hq : q.2 < 6) (h : code p < code q) : ltP p q = true := by
  unfold code at h
  exact decide_eq_true (by omega)
structure Ord (na nb : Nat) (G : List P2) : Prop where
  asc : Asc G
  inr : ∀ p ∈ G, p.1 < na ∧ p.2 < nb
  six : ∀ p ∈ G, p.1 < 6 ∧ p.2 < 6
  zero : ∃ r, G = (0, 0) :: r
  few : G.length ≤ 4096
theorem ascP {G : List P2} (h : Asc G) (h6 : ∀ p ∈ G, p.1 < 6 ∧ p.2 < 6) : ascB ltP G = true := by
  unfold ascB
  rw [List.all_eq_true]
  intro i hi
  rw [List.mem_range] at hi
  have h1 : i < G.length := by omega
  have h2 : i + 1 < G.length := by omega
  rw [List.getElem?_eq_getElem h1, List.getElem?_eq_getElem h2]
  exact asc_lt (na := 0) (nb := 0) (h6 _ (List.getElem_mem h1)).2 (h6 _ (List.getElem_mem h2)).2 (List.pairwise_iff_getElem.1 h i (i + 1) h1 h2 (by omega))
theorem okP_ord {na nb : Nat} {G : List P2} (h : Ord na nb G) : okP na nb (.tup (G.map dP)) = true := by
  show okPs na nb (G.map dP) = true
  unfold okPs
  have h1 : (G.map dP).all (isPair na nb) = true := by
    rw [List.all_map, List.all_eq_true]
    intro p hp
    exact isPair_ok (h.inr p hp)
  rw [h1, map_dec, ascP h.asc h.six]
  have := h.few
  obtain ⟨r, rfl⟩ := h.zero
  simp at this ⊢
  omega
theorem mem_any {α : Type} {P : α → Bool} {xs ys : List α} (h : ∀ z, z ∈ xs ↔ z ∈ ys) : xs.any P = ys.any P := by
  rw [Bool.eq_iff_iff, List.any_eq_true, List.any_eq_true]
  exact ⟨fun ⟨z, h1, h2⟩ => ⟨z, (h z).1 h1, h2⟩, fun ⟨z, h1, h2⟩ => ⟨z, (h z).2 h1, h2⟩⟩
theorem leads_mem {a b : Mach} {ns : List Str} {F G : List P2} (h : ∀ z, z ∈ G ↔ z ∈ F) (p : P2) : leads a b ns G p = leads a b ns F p := by
  unfold leads
  congr 1
  funext q
  rw [Bool.eq_iff_iff]
  simp [h q]
theorem closedV_map (a b : Mach) (ns : List Str) (G : List P2) : closedV a b ns (.tup (G.map dP)) = !G.any fun p => badPair a b p || leads a b ns G p := by
  show (!((G.map dP).map dec).any fun p => badPair a b p || leads a b ns ((G.map dP).map dec) p) = _
  rw [map_dec]
theorem closedV_ord {a b : Mach} {ns : List Str} {F : List P2} : closedV a b ns (.tup ((ord F).map dP)) = !F.any fun p => badPair a b p || leads a b ns F p := by
  rw [closedV_map, mem_any fun z => mem_ord]
  congr 2
  funext p
  rw [leads_mem fun z => mem_ord]
/-- values that are no pairs' tuple -/
theorem okP_no {na nb : Nat} {xs : List D} {d : D} (hd : d ∈ xs) (h : isPair na nb d = false) : okP na nb (.tup xs) = false := by
  show okPs na nb xs = false
  unfold okPs
  have : xs.all (isPair na nb) = false := by
    rw [List.all_eq_false]
    exact ⟨d, hd, by rw [h]; decide⟩
  rw [this]
  simp
theorem okP_head {na nb : Nat} {G : List P2} (h : ∀ r, G ≠ (0, 0) :: r) : okP na nb (.tup (G.map dP)) = false := by
  show okPs na nb _ = false
  unfold okPs
  rw [map_dec]
  cases G with
  | nil => simp
  | cons p r =>
    have : p ≠ (0, 0) := fun e => h r (by rw [e])
    simp [this]
theorem okP_last {na nb : Nat} {G : List P2} (h : G ≠ []) : okP na nb (.tup (G.map dP ++ (G.map dP).drop (G.length - 1))) = false := by
  have hl := List.length_pos_iff.2 h
  rw [← List.map_drop, ← List.map_append]
  show okPs na nb _ = false
  unfold okPs
  rw [map_dec]
  have : ascB ltP (G ++ G.drop (G.length - 1)) = false := by
    cases e : ascB ltP (G ++ G.drop (G.length - 1)) with
    | false => rfl
    | true =>
      have h1 : G.length - 1 < G.length := by omega
      have e1 : (G ++ G.drop (G.length - 1))[G.length - 1]? = some G[G.length - 1] := by
        rw [List.getElem?_append_left h1, List.getElem?_eq_getElem h1]
      have e2 : (G ++ G.drop (G.length - 1))[G.length - 1 + 1]? = some G[G.length - 1] := by
        rw [List.getElem?_append_right (by omega), List.getElem?_drop, show G.length - 1 + (G.length - 1 + 1 - G.length) = G.length - 1 by omega, List.getElem?_eq_getElem h1]
      have := ascB_get e e1 e2
      unfold ltP at this
      have := of_decide_eq_true this
      omega
  rw [this]
  simp
theorem isPair_list {na nb : Nat} (G : List P2) : isPair na nb (.tup (G.map dP)) = false := by
  match G with
  | [] => rfl
  | [_] => rfl
  | [p, q] => rfl
  | _ :: _ :: _ :: _ => rfl
theorem okP_turn {na nb : Nat} {G : List P2} (h : Ord na nb G) (hl : 1 < G.length) : okP na nb (.tup ((G.map dP).drop 1 ++ (G.map dP).take 1)) = false := by
  rw [← List.map_drop, ← List.map_take, ← List.map_append]
  refine okP_head fun r e => ?_
  obtain ⟨r', rfl⟩ := h.zero
  cases r' with
  | nil => simp at hl
  | cons p r' =>
    simp at e
    have h1 := h.asc
    unfold Asc at h1
    rw [List.pairwise_cons] at h1
    have := h1.1 p (List.mem_cons_self ..)
    rw [e.1] at this
    exact absurd this (Nat.lt_irrefl _)
theorem gone {a b : Mach} {ns : List Str} {G : List P2} {na nb : Nat} (h : Ord na nb G) (hp : ∀ p ∈ G, p ≠ (0, 0) → ∃ q ∈ G, q ≠ p ∧ p ∈ succ a b ns q) {t : Nat} (ht : t < G.length) :
    (okP na nb (.tup ((G.map dP).take t ++ (G.map dP).drop (t + 1))) && closedV a b ns (.tup ((G.map dP).take t ++ (G.map dP).drop (t + 1)))) = false := by
  rw [← List.map_drop, ← List.map_take, ← List.map_append]
  have hasc := h.asc
  cases t with
  | zero =>
    rw [okP_head]
    · rfl
    · intro r e
      obtain ⟨r', rfl⟩ := h.zero
      simp at e
      rw [e] at hasc
      unfold Asc at hasc
      rw [List.pairwise_cons] at hasc
      exact absurd (hasc.1 _ (List.mem_cons_self ..)) (Nat.lt_irrefl _)
  | succ t =>
    rw [closedV_map]
    have hpw := List.pairwise_iff_getElem.1 hasc
    have h0 : 0 < G.length := by omega
    have hne : G[t + 1] ≠ (0, 0) := fun e => by
      have := hpw 0 (t + 1) h0 ht (by omega)
      rw [e] at this
      exact absurd this (Nat.not_lt_zero _)
    obtain ⟨q, q1, q2, q3⟩ := hp _ (List.getElem_mem ht) hne
    have hnot : G[t + 1] ∉ G.take (t + 1) ++ G.drop (t + 1 + 1) := fun hm => by
      rw [List.mem_append] at hm
      rcases hm with hm | hm
      · rw [List.mem_iff_getElem] at hm
        obtain ⟨i, hi, e⟩ := hm
        rw [List.length_take] at hi
        rw [List.getElem_take] at e
        have := hpw i (t + 1) (by omega) ht (by omega)
        rw [e] at this
        exact absurd this (Nat.lt_irrefl _)
      · rw [List.mem_iff_getElem] at hm
        obtain ⟨i, hi, e⟩ := hm
        rw [List.length_drop] at hi
        rw [List.getElem_drop] at e
        have := hpw (t + 1) (t + 1 + 1 + i) ht (by omega) (by omega)
        rw [e] at this
        exact absurd this (Nat.lt_irrefl _)
    have hq : q ∈ G.take (t + 1) ++ G.drop (t + 1 + 1) := by
      rw [List.mem_iff_getElem] at q1
      obtain ⟨i, hi, e⟩ := q1
      rw [List.mem_append]
      by_cases h1 : i < t + 1
      · left
        rw [List.mem_iff_getElem]
        exact ⟨i, by rw [List.length_take]; omega, by rw [List.getElem_take]; exact e⟩
      · by_cases h2 : i = t + 1
        · subst h2
          exact absurd e.symm q2
        · right
          rw [List.mem_iff_getElem]
          refine ⟨i - (t + 1 + 1), by rw [List.length_drop]; omega, ?_⟩
          rw [List.getElem_drop]
          have : t + 1 + 1 + (i - (t + 1 + 1)) = i := by omega
          simp only [this]
          exact e
    have : ((G.take (t + 1) ++ G.drop (t + 1 + 1)).any fun p => badPair a b p || leads a b ns (G.take (t + 1) ++ G.drop (t + 1 + 1)) p) = true := by
      rw [List.any_eq_true]
      refine ⟨q, hq, ?_⟩
      have : leads a b ns (G.take (t + 1) ++ G.drop (t + 1 + 1)) q = true := by
        unfold leads
        rw [List.any_eq_true]
        exact ⟨_, q3, by simpa using hnot⟩
      rw [this]
      simp
    rw [this]
    simp
end K69

set_option linter.all false
set_option autoImplicit false
set_option maxRecDepth 100000
set_option maxHeartbeats 1000000
namespace K69
open PySem PySem.Spec L2 Bc
variable {w k : Nat}
theorem plain_dPs (G : List P2) : plain (.tup (G.map dP)) = true := by
  show plains (G.map dP) = true
  refine plains_of fun x hx => ?_
  rw [List.mem_map] at hx
  obtain ⟨r, _, rfl⟩ := hx
  rfl
theorem MetP.ord {a b : Mach} {ns : List Str} {F : List P2} (h : MetP a b ns F) (hh : Both a b ns) : Ord a.W.length b.W.length (ord F) := by
  have h6 := h.six hh
  have hasc := asc_ord h.nodup h6
  exact ⟨hasc, fun p hp => h.inr p (mem_ord.1 hp), fun p hp => h6 p (mem_ord.1 hp), head_zero hasc (mem_ord.2 h.zero), by rw [len_ord]; have := few h.nodup h6; omega⟩
theorem MetP.leads {a b : Mach} {ns : List Str} {F : List P2} (h : MetP a b ns F) {p : P2} (hp : p ∈ F) : leads a b ns F p = false := by
  unfold K69.leads
  rw [List.any_eq_false]
  intro q hq
  simpa using h.closed p hp q hq
theorem any_congr {α : Type} {P Q : α → Bool} : ∀ {xs : List α}, (∀ x ∈ xs, P x = Q x) → xs.any P = xs.any Q
  | [], _ => rfl
  | x :: xs, h => by
    rw [List.any_cons, List.any_cons, h x (List.mem_cons_self ..), any_congr fun y hy => h y (List.mem_cons_of_mem _ hy)]
theorem MetP.due {a b : Mach} {ns : List Str} {F : List P2} (h : MetP a b ns F) : closedV a b ns (.tup ((K69.ord F).map dP)) = !F.any (badPair a b) := by
  rw [closedV_ord]
  congr 1
  exact any_congr fun p hp => by rw [h.leads hp, Bool.or_false]
theorem need_lt {n : Nat} (h : n < 16777216) : need (decide (n < LINE)) = M.pure () := need_of (decide_eq_true h)
theorem plains_app {a b : List D} (ha : plains a = true) (hb : plains b = true) : plains (a ++ b) = true := plains_of fun x hx => by
  rw [List.mem_append] at hx
  exact hx.elim (plains_mem ha x) (plains_mem hb x)
theorem plains_take {a : List D} (ha : plains a = true) (n : Nat) : plains (a.take n) = true := plains_of fun x hx => plains_mem ha x (List.mem_of_mem_take hx)
theorem plains_drop {a : List D} (ha : plains a = true) (n : Nat) : plains (a.drop n) = true := plains_of fun x hx => plains_mem ha x (List.mem_of_mem_drop hx)
theorem plains_cons {d : D} {a : List D} (hd : plain d = true) (ha : plains a = true) : plains (d :: a) = true := by unfold plains; rw [hd, ha]; rfl
structure Wider (a b : Mach) (ns : List Str) (F G : List P2) (q : P2) : Prop where
  ord : Ord a.W.length b.W.length G
  sub : ∀ z ∈ F, z ∈ G
  has : q ∈ G
  only : ∀ z ∈ G, z ∈ F ∨ z = q
theorem Wider.due {a b : Mach} {ns : List Str} {F G : List P2} {q : P2} (h : Wider a b ns F G q) (hM : MetP a b ns F) :
    closedV a b ns (.tup (G.map dP)) = (((succ a b ns q).all fun z => decide (z ∈ G)) && !G.any (badPair a b)) := by
  rw [closedV_map]
  have h1 : (succ a b ns q).all (fun z => decide (z ∈ G)) = !K69.leads a b ns G q := by
    unfold K69.leads
    rw [any_not]
    simp
  have h2 : (G.any fun p => badPair a b p || K69.leads a b ns G p) = (G.any (badPair a b) || K69.leads a b ns G q) := by
    rw [Bool.eq_iff_iff, Bool.or_eq_true, List.any_eq_true, List.any_eq_true]
    constructor
    · rintro ⟨z, hz, e⟩
      rw [Bool.or_eq_true] at e
      rcases e with e | e
      · exact .inl ⟨z, hz, e⟩
      · rcases h.only z hz with hF | rfl
        · exfalso
          unfold K69.leads at e
          rw [List.any_eq_true] at e
          obtain ⟨u, hu, e⟩ := e
          have := h.sub u (hM.closed z hF u hu)
          simp [this] at e
        · exact .inr e
    · rintro (⟨z, hz, e⟩ | e)
      · exact ⟨z, hz, by rw [e]; rfl⟩
      · exact ⟨q, h.has, by rw [e]; simp⟩
  rw [h1, h2, Bool.not_or, Bool.and_comm]
theorem wider_of {a b : Mach} {ns : List Str} {F : List P2} {q : P2} (hh : Both a b ns) (hM : MetP a b ns F) (hq : InR a b q) : Wider a b ns F (K69.ord (if q ∈ F then F else F ++ [q])) q := by
  have h6 := hM.six hh
  have hla := hh.ga.len
  have hlb := hh.gb.len
  by_cases e : q ∈ F
  · rw [if_pos e]
    exact ⟨hM.ord hh, fun z hz => mem_ord.2 hz, mem_ord.2 e, fun z hz => .inl (mem_ord.1 hz)⟩
  · rw [if_neg e]
    have hm : ∀ z, z ∈ K69.ord (F ++ [q]) ↔ z ∈ F ∨ z = q := fun z => by rw [mem_ord, List.mem_append, List.mem_singleton]
    have hnd : (F ++ [q]).Nodup := by
      rw [List.nodup_append]
      exact ⟨hM.nodup, by simp, fun x hx y hy he => e (by have : y = q := by simpa using hy
                                                          rw [← this, ← he]; exact hx)⟩
    have h62 : ∀ p ∈ F ++ [q], p.1 < 6 ∧ p.2 < 6 := by
      intro z hz
      rw [List.mem_append, List.mem_singleton] at hz
      rcases hz with hz | rfl
      · exact h6 z hz
      · exact ⟨by have := hq.1; omega, by have := hq.2; omega⟩
    have hasc := asc_ord hnd h62
    refine ⟨⟨hasc, ?_, fun p hp => h62 p (mem_ord.1 hp), head_zero hasc ((hm _).2 (.inl hM.zero)), ?_⟩, fun z hz => (hm z).2 (.inl hz), (hm q).2 (.inr rfl), fun z hz => (hm z).1 hz⟩
    · intro z hz
      rcases (hm z).1 hz with hz | rfl
      · exact hM.inr z hz
      · exact hq
    · rw [len_ord]
      have := few hnd h62
      omega
theorem s_within_right {x y : Str} (h2 : Two x y) {a b : Mach} {i j i' j' : Bool} (ha : PN x y a i j) (hb : PN x y b i' j') {p n : Nat} (hn : n ≤ 600000) (hw : 100 ≤ w) :
    Tri (Pur p n) (callF pg w (k + 7) 38 [.loc p, dM a, dM b, .lst true ((pick x y (i || i') (j || j')).map .str)]) fun d s => d = .bl true ∧ Pur p (n + 3) s := by
  have hh := both_of h2 ha hb
  have win := fun (c : D) (hc : plain c = true) => s_within (w := w) (k := k) h2 ha hb hc
  generalize pick x y (i || i') (j || j') = ns at *
  obtain ⟨_, e1, F, rfl, hM⟩ := s_met (w := w) (k := k + 3) hh (f := true) hw
  have h36 := few hM.nodup (hM.six hh)
  have hO := hM.ord hh
  have e2 := s_marks_right (w := w) (k := k + 5) ha.good hb.good (X := .lst true (F.map dP)) (.inr ⟨_, rfl⟩) hM.inr (by omega)
  have e3 := s_ordered (w := w) (k := k + 5) (f := true) (hM.six hh) (by omega)
  have e4 := win _ (plain_dPs (ord F))
  rw [okP_ord hO, hM.due] at e4
  have e5 := s_so (w := w) (k := k + 5)
  rw [call_law_within_right]
  simp [b76, e1, e2, e3, e4, e5, need_len, toLine, len_ord]
  refine Tri.bindF (s_draw (many := F.length) (by have := List.length_pos_of_mem hM.zero; omega) (by omega) (by omega)) fun d hd => ?_
  obtain ⟨t, rfl, ht⟩ := hd
  have hla := hh.ga.len
  have hlb := hh.gb.len
  refine Tri.bindF (s_draw (many := a.W.length) hla.1 (by omega) (by omega)) fun d hd => ?_
  obtain ⟨j1, rfl, hj1⟩ := hd
  refine Tri.bindF (s_draw (many := b.W.length) hlb.1 (by omega) (by omega)) fun d hd => ?_
  obtain ⟨j2, rfl, hj2⟩ := hd
  have e6 : cmpD .NotIn (.tup [.int (j1 : Nat), .int (j2 : Nat)]) (.lst true (F.map dP)) = M.pure (.bl (!decide ((j1, j2) ∈ F))) := encP.notIn (by decide) (j1, j2) F
  have e7 := s_following (w := w) (k := k + 4) (f := true) hh (p := (j1, j2)) ⟨hj1, hj2⟩
  rw [show dP (j1, j2) = .tup [.int (j1 : Nat), .int (j2 : Nat)] from rfl] at e7
  simp [e6, e7]
  have hG := wider_of hh hM (q := (j1, j2)) ⟨hj1, hj2⟩
  have hGl : (ord (if (j1, j2) ∈ F then F else F ++ [(j1, j2)])).length ≤ 37 := by
    rw [len_ord]
    split
    · omega
    · simp; omega
  have e8 : (if (j1, j2) ∈ F then (M.pure (D.tup (List.map dP (ord F))) : M D) else (binD .Add (.lst true (F.map dP)) (.lst true [.tup [.int (j1 : Nat), .int (j2 : Nat)]])).bind fun a => callF pg w (k + 6) 35 [a]) = M.pure (.tup ((ord (if (j1, j2) ∈ F then F else F ++ [(j1, j2)])).map dP)) := by
    by_cases e : (j1, j2) ∈ F
    · rw [if_pos e, if_pos e]
    · rw [if_neg e, if_neg e, binD_addL (by rw [List.length_map]; exact toLine (by simp; omega)), pure_bind']
      have h62 : ∀ p ∈ F ++ [(j1, j2)], p.1 < 6 ∧ p.2 < 6 := by
        intro z hz
        rw [List.mem_append, List.mem_singleton] at hz
        rcases hz with hz | rfl
        · exact hM.six hh z hz
        · exact ⟨by show j1 < 6; omega, by show j2 < 6; omega⟩
      have := s_ordered (w := w) (k := k + 5) (f := true) h62 (by simp; omega)
      rw [List.map_append] at this
      exact this
  rw [e8, pure_bind']
  generalize ord (if (j1, j2) ∈ F then F else F ++ [(j1, j2)]) = G at *
  have e11 := win _ (plain_dPs G)
  rw [okP_ord hG.ord, hG.due hM] at e11
  have e10 := s_marks_right (w := w) (k := k + 5) ha.good hb.good (X := .tup (G.map dP)) (.inl rfl) hG.ord.inr (by omega)
  have hsl : (succ a b ns (j1, j2)).length ≤ 4 := by
    unfold succ
    rw [List.length_map, rowsL_len hh.hn.len.1 hh.hn.len.2]
    exact Nat.pow_le_pow_right (n := 2) (by decide) hh.hn.len.2
  rw [mapO_map (g := fun z => .bl (decide (z ∈ G)))]
  rotate_left
  · intro z hz
    rw [cmpD_in (encP.inT (by decide) (fun _ => rfl) z G)]
    simp
  simp [need_len, toLine (show (succ a b ns (j1, j2)).length ≤ 16777216 by omega), bAll_map, e11]
  have e12 : (if (succ a b ns (j1, j2)).all (fun z => decide (z ∈ G)) = true then callF pg w (k + 6) 36 [dM a, dM b, .tup (G.map dP)] else M.pure (.bl ((succ a b ns (j1, j2)).all fun z => decide (z ∈ G)))) = M.pure (.bl (((succ a b ns (j1, j2)).all fun z => decide (z ∈ G)) && !G.any (badPair a b))) := by
    rw [e10]
    cases (succ a b ns (j1, j2)).all fun z => decide (z ∈ G) <;> simp
  rw [e12, pure_bind']
  simp [e5]
  have htl : t < (ord F).length := by rw [len_ord]; exact ht
  have hgone := gone (a := a) (b := b) (ns := ns) hO (fun z hz => by
    intro hz0
    obtain ⟨u, h1, h2, h3⟩ := hM.pred z (mem_ord.1 hz) hz0
    exact ⟨u, mem_ord.2 h1, h2, h3⟩) htl
  have hlast := okP_last (na := a.W.length) (nb := b.W.length) (G := ord F) (fun e => by rw [e] at htl; exact absurd htl (Nat.not_lt_zero _))
  have hturn := okP_turn hO
  have hlist := isPair_list (na := a.W.length) (nb := b.W.length) (ord F)
  have hq0 : ((ord F).map dP)[t]? = some (dP (ord F)[t]) := by rw [List.getElem?_map, List.getElem?_eq_getElem htl]; rfl
  have hPl : ((ord F).map dP).length = (ord F).length := List.length_map ..
  have hPp := plain_dPs (ord F)
  have hL : (ord F).length ≤ 36 := by rw [len_ord]; exact h36
  generalize (ord F)[t] = q0 at *
  generalize (ord F).map dP = P at *
  generalize (ord F).length = L at *
  have h1 : binD .Add (.tup P) (.tup (cutD P (some (-1)) none)) = M.pure (.tup (P ++ P.drop (L - 1))) := by
    rw [cut_last, hPl]
    exact binD_addT (toLine (by rw [List.length_drop]; omega))
  have h2 : (if (1 : Int) < (L : Int) then binD .Add (.tup (cutD P (some 1) none)) (.tup (cutD P none (some 1))) else M.pure (.int 0)) = M.pure (if 1 < L then .tup (P.drop 1 ++ P.take 1) else .int 0) := by
    by_cases e : 1 < L
    · rw [if_pos (by omega), if_pos e, cut_from1, cut_to_1]
      exact binD_addT (toLine (by rw [List.length_drop, List.length_take]; omega))
    · rw [if_neg (by omega), if_neg e]
  have h3 : ∀ d, binD .Add (.tup (P.take t)) (.tup [d]) = M.pure (.tup (P.take t ++ [d])) := fun d => binD_addT (toLine (by rw [List.length_take]; simp; omega))
  have h4 : ∀ d, binD .Add (.tup (P.take t ++ [d])) (.tup (P.drop (t + 1))) = M.pure (.tup (P.take t ++ [d] ++ P.drop (t + 1))) := fun d => binD_addT (toLine (by rw [List.length_append, List.length_take, List.length_drop]; simp; omega))
  have h5 : ∀ d, binD .Add (.tup P) (.tup [d]) = M.pure (.tup (P ++ [d])) := fun d => binD_addT (toLine (by simp; omega))
  have h6 : binD .Add (.tup (P.take t)) (.tup (P.drop (t + 1))) = M.pure (.tup (P.take t ++ P.drop (t + 1))) := binD_addT (toLine (by rw [List.length_take, List.length_drop]; omega))
  rw [h1, pure_bind', h2, pure_bind']
  have h7 : L2.atI P (t : Nat) = some (dP q0) := by rw [atI_ofNat, hq0]
  simp [h7, dP, addT]
  simp [forL, h3, h4, h5, h6, cut_to, cut_succ]
  rw [binD_addL (toLine (by simp)), pure_bind']
  simp only [need_lt (show 6 < 16777216 by decide), need_lt (show 7 < 16777216 by decide), need_lt (show 8 < 16777216 by decide), need_lt (show 9 < 16777216 by decide), need_lt (show 10 < 16777216 by decide), need_lt (show 11 < 16777216 by decide), pure_bind', itSeq_lst, List.cons_append, List.nil_append]
  have hPs : plains P = true := hPp
  have pl : ∀ (d : D), plain d = true → plain (.tup (P.take t ++ d :: P.drop (t + 1))) = true := fun d hd => plains_app (plains_take hPs t) (plains_cons hd (plains_drop hPs _))
  have ap : ∀ (d : D), plain d = true → plain (.tup (P ++ [d])) = true := fun d hd => plains_app hPs (plains_cons hd rfl)
  have no : ∀ (d : D), isPair a.W.length b.W.length d = false → okP a.W.length b.W.length (.tup (P.take t ++ d :: P.drop (t + 1))) = false := fun d hd => okP_no (d := d) (by simp) hd
  have no2 : ∀ (d : D), isPair a.W.length b.W.length d = false → okP a.W.length b.W.length (.tup (P ++ [d])) = false := fun d hd => okP_no (d := d) (by simp) hd
  rw [mapO_all (g := fun d => .bl (okP a.W.length b.W.length d && closedV a b ns d))]
  · rw [noX_pure, pure_bind', List.length_map]
    simp only [List.length_cons, List.length_nil]
    rw [need_len (toLine (by decide)), pure_bind', bAny_map, pure_bind', truM_bl, pure_bind']
    refine Tri.pure fun s hs => ⟨?_, hs⟩
    congr 1
    rw [Bool.not_eq_true', List.any_eq_false]
    intro d hd
    have hfalse : ∀ d, okP a.W.length b.W.length d = false → ¬ (okP a.W.length b.W.length d && closedV a b ns d) = true := fun d h => by rw [h]; simp
    simp only [List.mem_cons, List.not_mem_nil, or_false] at hd
    rcases hd with rfl | rfl | rfl | rfl | rfl | rfl | rfl | rfl | rfl | rfl | rfl | rfl | rfl | rfl | rfl
    · exact hfalse _ rfl
    · exact hfalse _ rfl
    · exact hfalse _ rfl
    · exact hfalse _ hlast
    · refine hfalse _ ?_
      split
      · rename_i e
        have := hturn e
        simpa using this
      · rfl
    · exact hfalse _ (okP_no (List.mem_singleton.2 rfl) hlist)
    · exact hfalse _ (no _ rfl)
    · exact hfalse _ (no _ (by simp [isPair, isState]))
    · exact hfalse _ (no _ rfl)
    · exact hfalse _ (no _ (by simp [isPair, isState]))
    · exact hfalse _ (no _ rfl)
    · exact hfalse _ (no _ rfl)
    · exact hfalse _ (no2 _ (by simp [isPair, isState]; omega))
    · exact hfalse _ (no2 _ rfl)
    · rw [hgone]; simp
  · intro d hd
    have hpd : plain d = true := by
      simp only [List.mem_cons, List.not_mem_nil, or_false] at hd
      rcases hd with rfl | rfl | rfl | rfl | rfl | rfl | rfl | rfl | rfl | rfl | rfl | rfl | rfl | rfl | rfl
      · exact hPs
      · rfl
      · rfl
      · exact plains_app hPs (plains_drop hPs _)
      · split
        · exact plains_app (by rw [← List.drop_one]; exact plains_drop hPs _) (plains_take hPs _)
        · rfl
      · exact plains_cons hPs rfl
      · exact pl _ rfl
      · exact pl _ rfl
      · exact pl _ rfl
      · exact pl _ rfl
      · exact pl _ rfl
      · exact pl _ rfl
      · exact ap _ rfl
      · exact ap _ rfl
      · exact plains_app (plains_take hPs _) (plains_drop hPs _)
    rw [win d hpd, pure_bind']
end K69

set_option linter.all false
set_option autoImplicit false
set_option maxRecDepth 100000
set_option maxHeartbeats 1000000
namespace K69
open PySem PySem.Spec L2 Bc
variable {w k : Nat}
theorem bits_few {nums : List Nat} (h : ∀ n ∈ nums, n < 10 ^ 40) : maxBits nums 0 ≤ 140 := by
  by_cases e : maxBits nums 0 ≤ 140
  · exact e
  · exfalso
    have := (maxBits_lt 140 nums 0).1 (by omega)
    rcases this with h1 | ⟨n, hn, h1⟩
    · omega
    · have := h n hn
      have h2 : n / 2 ^ 140 = 0 := Nat.div_eq_of_lt (Nat.lt_trans this (by decide))
      omega
theorem pow1040 : binD .Pow (.int 10) (.int 40) = M.pure (.int (10 ^ 40 : Nat)) := by kernel_rfl
def rowR (ns : List Str) (nums : List Nat) : List D := (ns.zip nums).map fun p => .tup [.str p.1, .int (p.2 : Nat)]
theorem rowR_len {ns : List Str} {nums : List Nat} (h : nums.length = ns.length) : (rowR ns nums).length = ns.length := by
  unfold rowR
  rw [List.length_map, List.length_zip]
  omega
theorem empty_ne {x : Str} (h : isWord (.str x) = true) : (("" : Str) == x) = false := by
  have h : (decide (0 < x.length) && decide (x.length ≤ 8) && x.cps.toList.all letter) = true := h
  rw [Bool.and_eq_true, Bool.and_eq_true] at h
  have := of_decide_eq_true h.1.1
  have h' : ¬ ("" : Str) = x := fun e => by
    subst e
    exact absurd this (by decide +kernel)
  simpa using h'
theorem row_bad {ns : List Str} {nums : List Nat} (hN : Nms ns) (h : nums.length = ns.length) : ∃ last, L2.atI (ns.map D.str) (-1) = some (.str last) ∧ okS last = true ∧ last.length ≤ 100 ∧
    numsB ns (.tup (rowR ns nums).dropLast) = false ∧ numsB ns (.tup (rowR ns nums ++ (rowR ns nums).drop ((rowR ns nums).length - 1))) = false ∧ numsB ns (.tup []) = false ∧
    numsB ns (.tup (.tup [.str "", .int 0] :: (rowR ns nums).drop 1)) = false ∧ numsB ns (.tup ((rowR ns nums).dropLast ++ [.tup [.str last, .int (-1)]])) = false := by
  match ns, nums, hN.len, h, hN with
  | [x], [a], _, _, hN =>
    have h1 := empty_ne (hN.word x (by simp))
    refine ⟨x, by rw [atI_m1]; rfl, hN.ok x (by simp), word_len (hN.word x (by simp)), ?_, ?_, ?_, ?_, ?_⟩ <;> simp [numsB, rowR, isNum, h1]
  | [x, y], [a, b], _, _, hN =>
    have h1 := empty_ne (hN.word x (by simp))
    refine ⟨y, by rw [atI_m1]; rfl, hN.ok y (by simp), word_len (hN.word y (by simp)), ?_, ?_, ?_, ?_, ?_⟩ <;> simp [numsB, rowR, isNum, h1]
theorem s_outside_right {x y : Str} (h2 : Two x y) {a b : Mach} {i j i' j' : Bool} (ha : PN x y a i j) (hb : PN x y b i' j') {p n : Nat} (hn : n ≤ 600000) (hw : 200 ≤ w) :
    Tri (Pur p n) (callF pg w (k + 7) 39 [.loc p, dM a, dM b, .lst true ((pick x y (i || i') (j || j')).map .str)]) fun d s => d = .bl true ∧ Pur p (n + 16) s := by
  have hh := both_of h2 ha hb
  have yes := fun (nums : List Nat) (hl : nums.length = (pick x y (i || i') (j || j')).length) (hL : maxBits nums 0 ≤ 1000) => s_outside (w := w) (k := k) h2 ha hb hl hL
  have no := fun (r c : D) (hr : plain r = true) (hc : plain c = true) (hno : (isEmp c && numsB (pick x y (i || i') (j || j')) r) = false) => s_outside_no (w := w) (k := k) h2 ha hb hr hc hno
  generalize pick x y (i || i') (j || j') = ns at *
  have hN := hh.hn
  have hln := hN.len
  have e5 := s_so (w := w) (k := k + 5)
  rw [call_law_outside_right]
  have := itR1_nat (n := 4) (by decide)
  simp at this
  simp [b77, this]
  refine Tri.bindF (Tri.pre (tri_forL
    (J := fun m env => ∃ j4 j5 j6 j7 j8 j9, env = [.val (.loc p), .val (dM a), .val (dM b), .val (.lst true (ns.map .str)), j4, j5, j6, j7, j8, j9, .un, .un, .un])
    (I := fun m s => Pur p (n + 4 * m) s) (N := 4) (n := 0) ?_ (by simp) ⟨_, _, _, _, _, _, rfl⟩) fun s hs => hs) fun r hr => ?_
  rotate_left
  · obtain ⟨env', rfl, j4, j5, j6, j7, j8, j9, rfl⟩ := hr
    simp
    exact Tri.pure fun s hs => ⟨rfl, hs.mono (by omega)⟩
  · intro d hd m env hm hJ Q hQ
    obtain ⟨j4, j5, j6, j7, j8, j9, rfl⟩ := hJ
    simp [pow1040, need_len, toLine]
    refine Tri.bindF (s_one_of (by simp) (by simp) (by omega)) fun d1 hd1 => ?_
    have hd1 : ∃ most : Nat, d1 = .int (most : Nat) ∧ 0 < most ∧ most ≤ 10 ^ 40 := by
      simp at hd1
      rcases hd1 with rfl | rfl | rfl | rfl
      · exact ⟨2, rfl, by decide, by decide⟩
      · exact ⟨8, rfl, by decide, by decide⟩
      · exact ⟨60, rfl, by decide, by decide⟩
      · exact ⟨10 ^ 40, rfl, by decide, by decide⟩
    obtain ⟨most, rfl, hm1, hm2⟩ := hd1
    try simp
    refine Tri.bindF (Tri.noX (Tri.pre (tri_mapP (P := fun y => ∃ r : Nat, y = .int r ∧ r < 10 ^ 40) (I := fun i s => Pur p (n + 4 * m + 1 + i) s) (N := 2) (n := 0) ?_ (by simp; omega)) fun s hs => hs)) fun ys hys => ?_
    · intro x hx i hi Q hQ
      try simp
      refine Tri.bindF (s_draw (many := most) hm1 (Nat.lt_of_le_of_lt hm2 (by decide)) (by omega)) fun d hd => ?_
      obtain ⟨r, rfl, hr⟩ := hd
      exact Tri.pure fun s hs => hQ _ _ ⟨r, rfl, by omega⟩ hs
    obtain ⟨nums, rfl, g1, g2⟩ := lift_map (g := fun r : Nat => D.int r) (G := fun r => r < 10 ^ 40) hys.2
    rw [hys.1, List.length_map] at g1
    have hb0 := bits_few g2
    have r1 := s_runs (w := w) (k := k + 4) (f := true) (g := true) hh.ga hN hh.sa g1 (by omega)
    have r2 := s_runs (w := w) (k := k + 4) (f := true) (g := true) hh.gb hN hh.sb g1 (by omega)
    simp [need_len, toLine (show nums.length ≤ 16777216 by omega)]
    rw [itR1_nat (to62 (by omega)), pure_bind']
    rw [mapO_map (g := fun (i : Nat) => .tup [.str (ns[i]?.getD Str.empty), .int (nums[i]?.getD 0 : Nat)])]
    rotate_left
    · intro i hi
      rw [List.mem_range] at hi
      have hi2 : i < nums.length := by omega
      simp [atI_ofNat, hi, hi2, need_len, toLine]
    have hR : (List.range ns.length).map (fun (i : Nat) => D.tup [.str (ns[i]?.getD Str.empty), .int (nums[i]?.getD 0 : Nat)]) = (ns.zip nums).map fun p => .tup [.str p.1, .int (p.2 : Nat)] := by
      match ns, nums, hln, g1 with
      | [x], [a], _, _ => simp [List.range_succ]
      | [x, y], [a, b], _, _ => simp [List.range_succ]
    have y1 := yes nums g1 (by omega)
    rw [show dRowN ns nums = .tup (rowR ns nums) from rfl] at y1
    rw [hR, show ((ns.zip nums).map fun p => D.tup [.str p.1, .int (p.2 : Nat)]) = rowR ns nums from rfl]
    obtain ⟨last, l0, l1, l2, b1, b2, b3, b4, b5⟩ := row_bad hN g1
    have hRl := rowR_len g1
    have hRp : plains (rowR ns nums) = true := plain_row (nums := nums) hN
    generalize rowR ns nums = R at *
    rw [noX_pure, pure_bind', need_len (toLine (by omega)), pure_bind', show nums.map (fun r : Nat => D.int (r : Nat)) = dNat nums from rfl]
    rw [r1, pure_bind', truM_bl, pure_bind']
    have e12 : (if mkAt a (runTo a ns nums (maxBits nums 0)) = true then (callF pg w (k + 6) 37 [dM b, .lst true (ns.map .str), .lst true (dNat nums)]).bind fun x => (truM x).bind fun b => M.pure (D.bl (!b)) else M.pure (D.bl (mkAt a (runTo a ns nums (maxBits nums 0))))) = M.pure (D.bl (mkAt a (runTo a ns nums (maxBits nums 0)) && !mkAt b (runTo b ns nums (maxBits nums 0)))) := by
      rw [r2]
      cases mkAt a (runTo a ns nums (maxBits nums 0)) <;> simp
    rw [e12, pure_bind', y1]
    have h1 : binD .Add (.tup R) (.tup (cutD R (some (-1)) none)) = M.pure (.tup (R ++ R.drop (R.length - 1))) := by
      rw [cut_last]
      exact binD_addT (toLine (by rw [List.length_drop]; omega))
    have h3 : binD .Add (.tup [.tup [.str "", .int 0]]) (.tup (cutD R (some 1) none)) = M.pure (.tup (.tup [.str "", .int 0] :: R.drop 1)) := by
      rw [cut_from1]
      exact binD_addT (toLine (by rw [List.length_drop]; simp; omega))
    have h4 : binD .Add (.tup (cutD R none (some (-1)))) (.tup [.tup [.str last, .int (-1)]]) = M.pure (.tup (R.dropLast ++ [.tup [.str last, .int (-1)]])) := by
      rw [cut_to1]
      exact binD_addT (toLine (by rw [List.length_dropLast]; simp; omega))
    simp [e5, h1, h3, h4, l0, need_len, toLine]
    rw [mapO_all (g := fun _ => .bl false)]
    rotate_left
    · intro d hd
      have hpd : plain d = true ∧ numsB ns d = false := by
        simp only [List.mem_cons, List.not_mem_nil, or_false] at hd
        rcases hd with rfl | rfl | rfl | rfl | rfl | rfl
        · rw [cut_to1]
          exact ⟨plains_of fun x hx => plains_mem hRp x (List.dropLast_subset _ hx), b1⟩
        · exact ⟨plains_app hRp (plains_drop hRp _), b2⟩
        · exact ⟨hRp, rfl⟩
        · exact ⟨rfl, b3⟩
        · rw [← List.drop_one]
          exact ⟨plains_cons (by decide +kernel) (plains_drop hRp _), b4⟩
        · refine ⟨plains_app (plains_of fun x hx => plains_mem hRp x (List.dropLast_subset _ hx)) (plains_cons ?_ rfl), b5⟩
          show plains [.str last, .int (-1)] = true
          refine plains_cons ?_ rfl
          show (decide (last.length ≤ LINE) && okS last) = true
          rw [l1, decide_eq_true (toLine (by omega))]
          rfl
      rw [no d (.tup []) hpd.1 rfl (by rw [hpd.2]; rfl)]
      simp
    rw [noX_pure, pure_bind', need_len (toLine (by simp)), pure_bind', bAny_map]
    have anyF : ∀ xs : List D, (xs.any fun _ => false) = false := fun xs => by simp
    rw [anyF]
    simp
    rw [mapO_all (g := fun _ => .bl false)]
    rotate_left
    · intro d hd
      have hpd : plain d = true ∧ isEmp d = false := by
        simp only [List.mem_cons, List.not_mem_nil, or_false] at hd
        rcases hd with rfl | rfl | rfl | rfl <;> exact ⟨rfl, rfl⟩
      rw [no (.tup R) d hRp hpd.1 (by rw [hpd.2]; rfl)]
      simp
    rw [noX_pure, pure_bind', need_len (toLine (by simp)), pure_bind', bAny_map, anyF]
    simp
    exact Tri.pure fun s hs => hQ _ _ ⟨_, _, _, _, _, _, rfl⟩ (hs.mono (by omega))
end K69

set_option linter.all false
set_option autoImplicit false
set_option maxRecDepth 100000
set_option maxHeartbeats 1000000
namespace K69
open PySem PySem.Spec L2 Bc
variable {w k : Nat}
def BadM (d : D) : Prop := plain d = true ∧ isMachB d = false
theorem bad_names {v : D} {ws ms : List D} (h : isNames v = false) : isMachB (.tup [v, .tup ws, .tup ms]) = false := by
  show isMachT v ws ms = false
  unfold isMachT
  rw [h]
  simp
theorem bad_row {v : D} {ws ms : List D} {d : D} (hd : d ∈ ws) (h : isRow (2 ^ tupLen v) ws.length d = false) : isMachB (.tup [v, .tup ws, .tup ms]) = false := by
  show isMachT v ws ms = false
  unfold isMachT
  have : ws.all (isRow (2 ^ tupLen v) ws.length) = false := by
    rw [List.all_eq_false]
    exact ⟨d, hd, by rw [h]; decide⟩
  rw [this]
  simp
theorem bad_len {v : D} {ws ms : List D} (h : ms.length ≠ ws.length) : isMachB (.tup [v, .tup ws, .tup ms]) = false := by
  show isMachT v ws ms = false
  unfold isMachT
  rw [decide_eq_false h]
  simp
theorem bad_bl {v : D} {ws ms : List D} {d : D} (hd : d ∈ ms) (h : isBl d = false) : isMachB (.tup [v, .tup ws, .tup ms]) = false := by
  show isMachT v ws ms = false
  unfold isMachT
  have : ms.all isBl = false := by
    rw [List.all_eq_false]
    exact ⟨d, hd, by rw [h]; decide⟩
  rw [this]
  simp
theorem plain3 {a b c : D} (ha : plain a = true) (hb : plain b = true) (hc : plain c = true) : plain (.tup [a, b, c]) = true := plains_cons ha (plains_cons hb (plains_cons hc rfl))
theorem names_bad {ns : List Str} (hN : Nms ns) : isNames (.tup (ns.map D.str ++ ns.map D.str)) = false ∧ isNames (.tup (repL [.str "A"] (ns.length : Nat))) = false ∧ plain (.tup (repL [.str "A"] (ns.length : Nat))) = true ∧
    binD .Mult (.tup [.str "A"]) (.int (ns.length : Nat)) = M.pure (.tup (repL [.str "A"] (ns.length : Nat))) := by
  have hlt : ∀ x : Str, ltS x x = false := fun x => decide_eq_false (List.lt_irrefl _)
  have hA : isWord (.str "A") = false := by decide +kernel
  have r1 : repL [.str "A"] ((1 : Nat) : Int) = [.str "A"] := rfl
  have r2 : repL [.str "A"] ((2 : Nat) : Int) = [.str "A", .str "A"] := rfl
  match ns, hN.len, hN with
  | [x], _, hN =>
    have h1 := hN.word x (by simp)
    show _ ∧ isNames (.tup (repL [.str "A"] ((1 : Nat) : Int))) = false ∧ plain (.tup (repL [.str "A"] ((1 : Nat) : Int))) = true ∧ binD .Mult (.tup [.str "A"]) (.int ((1 : Nat) : Int)) = M.pure (.tup (repL [.str "A"] ((1 : Nat) : Int)))
    refine ⟨?_, ?_, by decide +kernel, by kernel_rfl⟩
    · simp [isNames, h1, asStrs, ascB_cons, ascB_one, hlt]
    · rw [r1]; simp [isNames, hA]
  | [x, y], _, hN =>
    show _ ∧ isNames (.tup (repL [.str "A"] ((2 : Nat) : Int))) = false ∧ plain (.tup (repL [.str "A"] ((2 : Nat) : Int))) = true ∧ binD .Mult (.tup [.str "A"]) (.int ((2 : Nat) : Int)) = M.pure (.tup (repL [.str "A"] ((2 : Nat) : Int)))
    refine ⟨?_, ?_, by decide +kernel, by kernel_rfl⟩
    · simp [isNames]
    · rw [r2]; simp [isNames, hA]
theorem s_bent0 {m : Mach} (hm : Good m) {d : D} (hd : d ∈ [.tup (m.nm.map D.str ++ m.nm.map D.str), .lst true (m.nm.map D.str), .non, .tup (repL [.str "A"] (m.nm.length : Nat)), .tup [], .tup [.int 3]]) : BadM (.tup [d, .tup (m.W.map dRow), .tup (m.K.map .bl)]) := by
  obtain ⟨h1, h2, h3, _⟩ := names_bad hm.nms
  have hn : plains (m.nm.map D.str) = true := hm.nms.plain
  simp only [List.mem_cons, List.not_mem_nil, or_false] at hd
  rcases hd with rfl | rfl | rfl | rfl | rfl | rfl
  · exact ⟨plain3 (plains_app hn hn) (plain_dW _) (plain_dK _), bad_names h1⟩
  · exact ⟨plain3 hn (plain_dW _) (plain_dK _), bad_names rfl⟩
  · exact ⟨plain3 rfl (plain_dW _) (plain_dK _), bad_names rfl⟩
  · exact ⟨plain3 h3 (plain_dW _) (plain_dK _), bad_names h2⟩
  · refine ⟨plain3 rfl (plain_dW _) (plain_dK _), ?_⟩
    have hl := hm.len
    have hr : m.W[0]'hl.1 ∈ m.W := List.getElem_mem hl.1
    refine bad_row (d := dRow (m.W[0]'hl.1)) (List.mem_map_of_mem hr) ?_
    have h4 := hm.wide _ hr
    have h5 : 2 ≤ 2 ^ m.nm.length := by
      have := Nat.pow_le_pow_right (n := 2) (by decide) (show 1 ≤ m.nm.length from hm.nms.len.1)
      simpa using this
    show (decide ((dNat (m.W[0]'hl.1)).length = 2 ^ 0) && _) = false
    rw [decide_eq_false]
    · rfl
    · unfold dNat
      rw [List.length_map, h4]
      omega
  · exact ⟨plain3 rfl (plain_dW _) (plain_dK _), bad_names (by decide +kernel)⟩
theorem row_odd {r : List Nat} {wide many : Nat} (hr : r.length = wide) (hw : 2 ≤ wide ∧ wide ≤ 4) {d : D} (hd : d ∈ [.tup (dNat r).dropLast, .tup (dNat r ++ [.int 0]), .lst true (dNat r), .non, .tup (repL [.int (many : Nat)] (r.length : Nat)), .tup (.int (-1) :: (dNat r).drop 1), .tup ((dNat r).dropLast ++ [.non]), .tup ((dNat r).dropLast ++ [.bl false])]) : plain d = true ∧ isRow wide many d = false := by
  have hp : plains (dNat r) = true := plain_dRow r
  have hpd : plains (dNat r).dropLast = true := plains_of fun x hx => plains_mem hp x (List.dropLast_subset _ hx)
  have hl : (dNat r).length = wide := by unfold dNat; rw [List.length_map, hr]
  have row (xs : List D) (h : xs.length ≠ wide) : isRow wide many (.tup xs) = false := by
    show (decide (xs.length = wide) && _) = false
    rw [decide_eq_false h]
    rfl
  have sts (xs : List D) (d : D) (h : d ∈ xs) (h' : isState many d = false) : isRow wide many (.tup xs) = false := by
    show (_ && xs.all (isState many)) = false
    have : xs.all (isState many) = false := by
      rw [List.all_eq_false]
      exact ⟨d, h, by rw [h']; decide⟩
    rw [this]
    simp
  simp only [List.mem_cons, List.not_mem_nil, or_false] at hd
  rcases hd with rfl | rfl | rfl | rfl | rfl | rfl | rfl | rfl
  · exact ⟨hpd, row _ (by rw [List.length_dropLast]; omega)⟩
  · exact ⟨plains_app hp rfl, row _ (by rw [List.length_append]; simp; omega)⟩
  · exact ⟨hp, rfl⟩
  · exact ⟨rfl, rfl⟩
  · have hm : ∀ x ∈ repL [D.int (many : Nat)] (r.length : Nat), x = .int (many : Nat) := by
      intro x hx
      unfold repL at hx
      rw [List.mem_flatten] at hx
      obtain ⟨l, h1, h2⟩ := hx
      have := List.eq_of_mem_replicate h1
      subst this
      simpa using h2
    refine ⟨plains_of fun x hx => by rw [hm x hx]; rfl, sts _ (.int (many : Nat)) ?_ (by simp [isState])⟩
    unfold repL
    rw [List.mem_flatten]
    refine ⟨[.int (many : Nat)], ?_, by simp⟩
    rw [List.mem_replicate]
    exact ⟨by simp; intro e; rw [e] at hr; simp at hr; omega, rfl⟩
  · exact ⟨plains_cons rfl (plains_drop hp _), sts _ (.int (-1)) (by simp) (by simp [isState])⟩
  · exact ⟨plains_app hpd rfl, sts _ .non (by simp) rfl⟩
  · exact ⟨plains_app hpd rfl, sts _ (.bl false) (by simp) rfl⟩
theorem s_bent1 {m : Mach} (hm : Good m) {t : Nat} (ht : t < m.W.length) {d : D} (hp : plain d = true) (hd : isRow (2 ^ m.nm.length) m.W.length d = false) : BadM (.tup [dN m.nm, .tup ((m.W.map dRow).take t ++ d :: (m.W.map dRow).drop (t + 1)), .tup (m.K.map .bl)]) := by
  have hW : plains (m.W.map dRow) = true := plain_dW _
  refine ⟨plain3 hm.nms.plain (plains_app (plains_take hW _) (plains_cons hp (plains_drop hW _))) (plain_dK _), ?_⟩
  refine bad_row (d := d) (by simp) ?_
  have e1 : ((m.W.map dRow).take t ++ d :: (m.W.map dRow).drop (t + 1)).length = m.W.length := by
    rw [List.length_append, List.length_cons, List.length_take, List.length_drop, List.length_map]
    omega
  have e2 : tupLen (dN m.nm) = m.nm.length := by
    show (m.nm.map D.str).length = _
    rw [List.length_map]
  rw [e1, e2]
  exact hd
theorem s_bent2 {m : Mach} (hm : Good m) {d : D} (hd : d ∈ [.tup (m.W.map dRow).dropLast, .tup (m.W.map dRow ++ (m.W.map dRow).take 1), .lst true (m.W.map dRow), .non, .tup []]) : BadM (.tup [dN m.nm, d, .tup (m.K.map .bl)]) := by
  have hW : plains (m.W.map dRow) = true := plain_dW _
  have hl := hm.len
  have hk := hm.marks
  simp only [List.mem_cons, List.not_mem_nil, or_false] at hd
  rcases hd with rfl | rfl | rfl | rfl | rfl
  · exact ⟨plain3 hm.nms.plain (plains_of fun x hx => plains_mem hW x (List.dropLast_subset _ hx)) (plain_dK _), bad_len (by simp; omega)⟩
  · exact ⟨plain3 hm.nms.plain (plains_app hW (plains_take hW _)) (plain_dK _), bad_len (by rw [List.length_append, List.length_take, List.length_map, List.length_map]; omega)⟩
  · exact ⟨plain3 hm.nms.plain hW (plain_dK _), rfl⟩
  · exact ⟨plain3 hm.nms.plain rfl (plain_dK _), rfl⟩
  · exact ⟨plain3 hm.nms.plain rfl (plain_dK _), bad_len (by simp; intro e; rw [e] at hk; simp at hk; omega)⟩
theorem s_bent3 {m : Mach} (hm : Good m) {t : Nat} {d0 d : D} (h0 : d0 ∈ [.int 0, .int 1, .non, .str "", .lst true []]) (hd : d ∈ [.tup ((m.K.map D.bl).take t ++ d0 :: (m.K.map D.bl).drop (t + 1)), .tup (m.K.map D.bl ++ [.bl true]), .lst true (m.K.map D.bl), .tup (m.K.map D.bl).dropLast, .non, .tup []]) : BadM (.tup [dN m.nm, .tup (m.W.map dRow), d]) := by
  have hK : plains (m.K.map D.bl) = true := plain_dK _
  have hW := plain_dW m.W
  have hl := hm.len
  have hk := hm.marks
  have hp0 : plain d0 = true ∧ isBl d0 = false := by
    simp only [List.mem_cons, List.not_mem_nil, or_false] at h0
    rcases h0 with rfl | rfl | rfl | rfl | rfl
    · exact ⟨rfl, rfl⟩
    · exact ⟨rfl, rfl⟩
    · exact ⟨rfl, rfl⟩
    · exact ⟨by decide +kernel, rfl⟩
    · exact ⟨rfl, rfl⟩
  simp only [List.mem_cons, List.not_mem_nil, or_false] at hd
  rcases hd with rfl | rfl | rfl | rfl | rfl | rfl
  · exact ⟨plain3 hm.nms.plain hW (plains_app (plains_take hK _) (plains_cons hp0.1 (plains_drop hK _))), bad_bl (d := d0) (by simp) hp0.2⟩
  · exact ⟨plain3 hm.nms.plain hW (plains_app hK rfl), bad_len (by simp; omega)⟩
  · exact ⟨plain3 hm.nms.plain hW hK, rfl⟩
  · exact ⟨plain3 hm.nms.plain hW (plains_of fun x hx => plains_mem hK x (List.dropLast_subset _ hx)), bad_len (by simp; omega)⟩
  · exact ⟨plain3 hm.nms.plain hW rfl, rfl⟩
  · exact ⟨plain3 hm.nms.plain hW rfl, bad_len (by simp; omega)⟩
theorem s_bent4 {m : Mach} (hm : Good m) {d : D} (hd : d ∈ [.lst true [dN m.nm, .tup (m.W.map dRow), .tup (m.K.map .bl)], .tup [dN m.nm, .tup (m.W.map dRow)], .tup [dN m.nm, .tup (m.W.map dRow), .tup (m.K.map .bl), .int 0], .non, .tup [], .str "machine"]) : BadM d := by
  have hn := hm.nms.plain
  have hW := plain_dW m.W
  have hK := plain_dK m.K
  simp only [List.mem_cons, List.not_mem_nil, or_false] at hd
  rcases hd with rfl | rfl | rfl | rfl | rfl | rfl
  · exact ⟨plain3 hn hW hK, rfl⟩
  · exact ⟨plains_cons hn (plains_cons hW rfl), by simp [isMachB]⟩
  · exact ⟨plains_cons hn (plains_cons hW (plains_cons hK rfl)), by simp [isMachB]⟩
  · exact ⟨rfl, rfl⟩
  · exact ⟨rfl, rfl⟩
  · exact ⟨by decide +kernel, rfl⟩
end K69

set_option linter.all false
set_option autoImplicit false
set_option maxRecDepth 100000
set_option maxHeartbeats 1000000
namespace K69
open PySem PySem.Spec L2 Bc
variable {w k : Nat}
theorem addTn {a b : List D} (h : a.length + b.length ≤ 1000) : binD .Add (.tup a) (.tup b) = M.pure (.tup (a ++ b)) := binD_addT (toLine (by omega))
theorem binD_mulT (a : List D) (k : Int) : binD .Mult (.tup a) (.int k) = (need (decide (0 ≤ k ∧ k < 1000000) && lenOk (a.length * k.toNat))).bind fun _ => M.pure (.tup (repL a k)) := (rfl)
theorem mulT_ok {a : List D} {n : Nat} (h : a.length ≤ 100) (h' : n ≤ 1000) : binD .Mult (.tup a) (.int (n : Nat)) = M.pure (.tup (repL a (n : Nat))) := by
  rw [binD_mulT, need_of, pure_bind']
  rw [decide_eq_true (show (0 : Int) ≤ (n : Int) ∧ (n : Int) < 1000000 by omega), lenOk_of]
  · rfl
  · rw [Int.toNat_natCast]
    have := Nat.mul_le_mul h h'
    exact toLine (by omega)
theorem s_machine_bent {m : Mach} (hm : Good m) {p n : Nat} (hn : n ≤ 600000) : Tri (Pur p n) (callF pg w (k + 3) 40 [.loc p, dM m]) fun d s => BadM d ∧ Pur p (n + 4) s := by
  rw [call_law_machine_bent]
  have hl := hm.len
  have hk := hm.marks
  have hln := hm.nms.len
  rw [show dM m = .tup [dN m.nm, .tup (m.W.map dRow), .tup (m.K.map .bl)] from rfl]
  simp [b78, need_len, toLine]
  refine Tri.bindF (s_draw (p := p) (n := n) (many := m.W.length) hl.1 (by omega) (by omega)) fun d hd => ?_
  obtain ⟨t, rfl, ht⟩ := hd
  try simp
  refine Tri.bindF (s_draw (p := p) (n := n + 1) (many := 5) (by decide) (by decide) (by omega)) fun d hd => ?_
  obtain ⟨way, rfl, hway⟩ := hd
  match way, hway with
  | 0, _ =>
    obtain ⟨h1, h2, h3, h4⟩ := names_bad hm.nms
    simp [need_len, toLine]
    rw [show dN m.nm = .tup (m.nm.map .str) from rfl, addTn (by simp; omega), h4]
    simp [need_len, toLine]
    refine Tri.bindF (s_one_of (p := p) (n := n + 2) (by simp) (by simp) (by omega)) fun d hd => ?_
    exact Tri.pure fun s hs => ⟨s_bent0 hm hd, hs.mono (by omega)⟩
  | 1, _ =>
    have hq : (m.W.map dRow)[t]? = some (dRow m.W[t]) := by rw [List.getElem?_map, List.getElem?_eq_getElem ht]; rfl
    have hr : m.W[t] ∈ m.W := List.getElem_mem ht
    have hrl := hm.wide _ hr
    have h24 : 2 ≤ 2 ^ m.nm.length ∧ 2 ^ m.nm.length ≤ 4 := by
      have h1 := Nat.pow_le_pow_right (n := 2) (by decide) (show 1 ≤ m.nm.length from hln.1)
      have h2 := Nat.pow_le_pow_right (n := 2) (by decide) hln.2
      exact ⟨by simpa using h1, by simpa using h2⟩
    have hlr : (dNat m.W[t]).length ≤ 4 := by unfold dNat; rw [List.length_map, hrl]; omega
    have hW : (m.W.map dRow).length ≤ 6 := by rw [List.length_map]; omega
    have hmul : binD .Mult (.tup [.int (m.W.length : Nat)]) (.int (m.W[t].length : Nat)) = M.pure (.tup (repL [.int (m.W.length : Nat)] (m.W[t].length : Nat))) := mulT_ok (by simp) (by rw [hrl]; omega)
    have c1 : binD .Add (.tup (dNat m.W[t])) (.tup [.int 0]) = M.pure (.tup (dNat m.W[t] ++ [.int 0])) := addTn (by simp; omega)
    have c2 : binD .Add (.tup [.int (-1)]) (.tup (cutD (dNat m.W[t]) (some 1) none)) = M.pure (.tup (.int (-1) :: (dNat m.W[t]).drop 1)) := by
      rw [cut_from1]
      exact addTn (by rw [List.length_drop]; simp; omega)
    have c3 : ∀ d, binD .Add (.tup (cutD (dNat m.W[t]) none (some (-1)))) (.tup [d]) = M.pure (.tup ((dNat m.W[t]).dropLast ++ [d])) := fun d => by
      rw [cut_to1]
      exact addTn (by rw [List.length_dropLast]; simp; omega)
    have c4 : ∀ d, binD .Add (.tup (cutD (m.W.map dRow) none (some (t : Int)))) (.tup [d]) = M.pure (.tup ((m.W.map dRow).take t ++ [d])) := fun d => by
      rw [cut_to]
      exact addTn (by rw [List.length_take]; simp; omega)
    have c5 : ∀ d, binD .Add (.tup ((m.W.map dRow).take t ++ [d])) (.tup (cutD (m.W.map dRow) (some ((t : Int) + 1)) none)) = M.pure (.tup ((m.W.map dRow).take t ++ [d] ++ (m.W.map dRow).drop (t + 1))) := fun d => by
      rw [cut_succ]
      exact addTn (by rw [List.length_append, List.length_take, List.length_drop]; simp; omega)
    have c6 : bLen [dRow m.W[t]] = M.pure (.int (m.W[t].length : Nat)) := by
      show (M.pure (D.int ((dNat m.W[t]).length : Nat)) : M D) = _
      unfold dNat
      rw [List.length_map]
    have odd := fun d => row_odd (many := m.W.length) hrl h24 (d := d)
    have fin := fun d => s_bent1 hm ht (d := d)
    have c7 : dRow m.W[t] = .tup (dNat m.W[t]) := rfl
    generalize m.W[t] = r at *
    have c7' : bLen [.tup (dNat r)] = M.pure (.int (r.length : Nat)) := by rw [← c7]; exact c6
    simp only [c7] at *
    generalize hN : dNat r = rr at *
    have hrrl : rr.length = r.length := by rw [← hN]; unfold dNat; rw [List.length_map]
    simp [need_len, toLine, atI_ofNat, hq, c1]
    rw [hrrl, hmul, pure_bind', c2, pure_bind', c3, pure_bind', c3, pure_bind', binD_addL (toLine (by simp)), pure_bind', cut_to1]
    refine Tri.bindF (s_one_of (p := p) (n := n + 2) (by simp) (by simp) (by omega)) fun d hd => ?_
    rw [c4, pure_bind', c5, pure_bind']
    have hdd := odd d hd
    have hf := fin d hdd.1 hdd.2
    refine Tri.pure fun s hs => ⟨?_, hs.mono (by omega)⟩
    rw [List.append_assoc]
    exact hf
  | 2, _ =>
    have hW : (m.W.map dRow).length ≤ 6 := by rw [List.length_map]; omega
    have c1 : binD .Add (.tup (m.W.map dRow)) (.tup (cutD (m.W.map dRow) none (some 1))) = M.pure (.tup (m.W.map dRow ++ (m.W.map dRow).take 1)) := by
      rw [cut_to_1]
      exact addTn (by rw [List.length_take]; omega)
    simp [need_len, toLine, c1]
    rw [cut_to1]
    refine Tri.bindF (s_one_of (p := p) (n := n + 2) (by simp) (by simp) (by omega)) fun d hd => ?_
    exact Tri.pure fun s hs => ⟨s_bent2 hm hd, hs.mono (by omega)⟩
  | 3, _ =>
    have hK : (m.K.map D.bl).length ≤ 6 := by rw [List.length_map]; omega
    simp [need_len, toLine]
    refine Tri.bindF (s_one_of (p := p) (n := n + 2) (by simp) (by simp) (by omega)) fun d0 hd0 => ?_
    have c4 : ∀ d, binD .Add (.tup (cutD (m.K.map D.bl) none (some (t : Int)))) (.tup [d]) = M.pure (.tup ((m.K.map D.bl).take t ++ [d])) := fun d => by
      rw [cut_to]
      exact addTn (by rw [List.length_take]; simp; omega)
    have c5 : ∀ d, binD .Add (.tup ((m.K.map D.bl).take t ++ [d])) (.tup (cutD (m.K.map D.bl) (some ((t : Int) + 1)) none)) = M.pure (.tup ((m.K.map D.bl).take t ++ [d] ++ (m.K.map D.bl).drop (t + 1))) := fun d => by
      rw [cut_succ]
      exact addTn (by rw [List.length_append, List.length_take, List.length_drop]; simp; omega)
    have c6 : binD .Add (.tup (m.K.map D.bl)) (.tup [.bl true]) = M.pure (.tup (m.K.map D.bl ++ [.bl true])) := addTn (by simp; omega)
    rw [c4, pure_bind', c5, pure_bind', c6, pure_bind', binD_addL (toLine (by simp)), pure_bind', cut_to1]
    refine Tri.bindF (s_one_of (p := p) (n := n + 3) (by simp) (by simp) (by omega)) fun d hd => ?_
    refine Tri.pure fun s hs => ⟨s_bent3 (t := t) hm hd0 ?_, hs⟩
    rw [List.append_assoc] at hd
    exact hd
  | 4, _ =>
    have c1 : cutD [dN m.nm, .tup (m.W.map dRow), .tup (m.K.map .bl)] none (some 2) = [dN m.nm, .tup (m.W.map dRow)] := cut_to _ 2
    simp [need_len, toLine, addT]
    rw [c1]
    refine Tri.weaken (s_one_of (p := p) (n := n + 2) (by simp) (by simp) (by omega)) fun d s hd => ?_
    exact ⟨s_bent4 hm hd.1, hd.2.mono (by omega)⟩
end K69

set_option linter.all false
set_option autoImplicit false
set_option maxRecDepth 100000
set_option maxHeartbeats 1000000
namespace K69
open PySem PySem.Spec L2 Bc
variable {w k : Nat}
theorem s_turned_mark {m : Mach} (hm : Good m) : Ret (callF pg w (k + 1) 41 [dM m]) fun r => r = .non ∨ BadM r := by
  rw [call_law_turned_mark]
  have hl := hm.len
  have hk := hm.marks
  have hW := hm.ways
  rw [show dM m = .tup [dN m.nm, .tup (m.W.map dRow), .tup (m.K.map .bl)] from rfl]
  simp [b79, need_len, toLine]
  rw [itR1_nat (to62 (by omega)), pure_bind', mapO_mapF (p := fun (i : Nat) => !decide (nx m.W i = i)) (g := fun (i : Nat) => D.int i)]
  rotate_left
  · intro i hi
    rw [List.mem_range] at hi
    obtain ⟨h1, h2⟩ := hW.nx_lt hi
    simp at h2
    simp
    rw [← bind_assoc', h2]
    simp [Enc.nat.ne (by decide)]
    by_cases e : nx m.W i = i <;> simp [e]
  have hfl : ((List.range m.W.length).filter fun (i : Nat) => !decide (nx m.W i = i)).length ≤ 6 := Nat.le_trans (List.length_filter_le ..) (by rw [List.length_range]; omega)
  have hmem : ∀ i ∈ (List.range m.W.length).filter fun (i : Nat) => !decide (nx m.W i = i), i < m.W.length ∧ nx m.W i ≠ i := by
    intro i hi
    rw [List.mem_filter, List.mem_range] at hi
    exact ⟨hi.1, by simpa using hi.2⟩
  generalize (List.range m.W.length).filter (fun (i : Nat) => !decide (nx m.W i = i)) = sp at *
  have e1 : cmpD .Eq (.lst true (sp.map fun (i : Nat) => D.int i)) (.lst true []) = M.pure (.bl (decide (sp = []))) := (Enc.nat.lst true).eq (by decide) sp []
  simp [need_len, toLine (show sp.length ≤ 16777216 by omega), toLine (show 0 ≤ 16777216 by omega), e1]
  cases sp with
  | nil =>
    simp
    exact Ret.pure (.inl rfl)
  | cons t sp =>
    obtain ⟨ht, htn⟩ := hmem t (List.mem_cons_self ..)
    have h4 := hm.at ht
    have c4 : ∀ d, binD .Add (.tup (cutD (m.K.map D.bl) none (some (t : Int)))) (.tup [d]) = M.pure (.tup ((m.K.map D.bl).take t ++ [d])) := fun d => by
      rw [cut_to]
      exact addTn (by rw [List.length_take]; simp; omega)
    have c5 : ∀ d, binD .Add (.tup ((m.K.map D.bl).take t ++ [d])) (.tup (cutD (m.K.map D.bl) (some ((t : Int) + 1)) none)) = M.pure (.tup ((m.K.map D.bl).take t ++ [d] ++ (m.K.map D.bl).drop (t + 1))) := fun d => by
      rw [cut_succ]
      exact addTn (by rw [List.length_append, List.length_take, List.length_drop]; simp; omega)
    simp [need_len, toLine, h4]
    rw [c4, pure_bind', c5, pure_bind']
    refine Ret.pure (.inr ?_)
    have hset : (m.K.map D.bl).take t ++ [.bl !mkAt m t] ++ (m.K.map D.bl).drop (t + 1) = (m.K.set t (!mkAt m t)).map D.bl := by
      rw [List.map_set, List.set_eq_take_append_cons_drop, if_pos (by rw [List.length_map]; omega), List.append_assoc]
      rfl
    rw [hset]
    refine ⟨plain3 hm.nms.plain (plain_dW _) (plain_dK _), ?_⟩
    show isMachT _ _ _ = false
    unfold isMachT
    have : marksB (m.W.map dRow) ((m.K.set t (!mkAt m t)).map D.bl) = false := by
      unfold marksB
      rw [List.all_eq_false]
      refine ⟨t, by rw [List.mem_range, List.length_map]; exact ht, ?_⟩
      rw [wayAt_dRow hW ht, markAt_bl, markAt_bl, List.getElem?_set_ne (fun e => htn e.symm), List.getElem?_set_self (by omega)]
      have h5 : m.K[nx m.W t]?.getD false = m.K[t]?.getD false := hm.still t ht
      rw [h5]
      show ¬ (mkAt m t == !mkAt m t) = true
      cases mkAt m t <;> decide
    rw [this]
    simp
end K69

set_option linter.all false
set_option autoImplicit false
set_option maxRecDepth 100000
set_option maxHeartbeats 1000000
namespace K69
open PySem PySem.Spec L2 Bc
variable {w k : Nat}
def isNone : D → Bool
  | .non => true
  | _ => false
theorem isnot_non {d : D} (h : plain d = true) : cmpD .IsNot d .non = M.pure (.bl (!isNone d)) := by
  cases d <;> first | rfl | (unfold plain at h; cases h)
theorem eq_falses (b : Bool) : cmpD .NotEq (.lst true [.bl false, .bl false, .bl false, .bl false, .bl false]) (.lst b [.bl false, .bl false, .bl false, .bl false, .bl false]) = M.pure (.bl false) := by
  cases b <;> kernel_rfl
theorem mul_falses : binD .Mult (.lst true [.bl false]) (.int 5) = M.pure (.lst true [.bl false, .bl false, .bl false, .bl false, .bl false]) := by kernel_rfl
theorem acc_bad {A B c : D} (hA : plain A = true) (hB : plain B = true) (h : (isMachB A && isMachB B) = false) : callF pg w (k + 6) 16 [.tup [.str "within", A, B], c] = M.pure (.bl false) := by
  rw [acc_within, so_bad hA hB h]
theorem acc_bad2 {A B r c : D} (hA : plain A = true) (hB : plain B = true) (h : (isMachB A && isMachB B) = false) : callF pg w (k + 6) 16 [.tup [.str "outside", A, B, r], c] = M.pure (.bl false) := by
  rw [acc_outside, so_bad hA hB h]
theorem forL_all {γ J : Type} {f : D → Bc.Env → M (Fl × Bc.Env)} (mk : J → Bc.Env) {xs : List D} {g : Fl × Bc.Env → M γ} {S : γ → Prop}
    (hf : ∀ x ∈ xs, ∀ j, ∀ Q : Fl × Bc.Env → Prop, (∀ j', Q (.nx, mk j')) → Ret (f x (mk j)) Q) (hr : ∀ j', Ret (g (.nx, mk j')) S) : ∀ {j : J}, Ret ((forL f xs (mk j)).bind g) S := by
  induction xs with
  | nil => intro j; exact hr j
  | cons x xs ih =>
    intro j
    obtain ⟨r, e, j', rfl⟩ := hf x (List.mem_cons_self ..) j (fun r => ∃ j', r = (.nx, mk j')) fun j' => ⟨j', rfl⟩
    unfold forL
    rw [e, pure_bind']
    exact ih (fun y hy => hf y (List.mem_cons_of_mem _ hy))
theorem s_bent_right {x y : Str} (h2 : Two x y) {a b : Mach} {i j i' j' : Bool} (ha : PN x y a i j) (hb : PN x y b i' j') {p n : Nat} (hn : n ≤ 600000) (hw : 200 ≤ w) {ns : List Str} (hns : ns.length ≤ 2) :
    Tri (Pur p n) (callF pg w (k + 7) 42 [.loc p, dM a, dM b, .lst true (ns.map .str)]) fun d s => d = .bl true ∧ Pur p (n + 4) s := by
  have hh := both_of h2 ha ha
  rw [Bool.or_self, Bool.or_self, ← ha.nm] at hh
  obtain ⟨_, e1, F, rfl, hM⟩ := s_met (w := w) (k := k + 3) hh (f := true) (by omega)
  have h36 := few hM.nodup (hM.six hh)
  have hO := hM.ord hh
  have e3 := s_ordered (w := w) (k := k + 5) (f := true) (hM.six hh) (by omega)
  have e4 := s_within (w := w) (k := k) h2 ha ha (plain_dPs (ord F))
  rw [Bool.or_self, Bool.or_self, ← ha.nm, okP_ord hO, hM.due] at e4
  have hdiag : F.any (badPair a a) = false := by
    have := hM.ind (fun p => p.1 = p.2) rfl fun p hp q hq => by
      unfold succ at hq
      rw [List.mem_map] at hq
      obtain ⟨r, _, rfl⟩ := hq
      show step a p.1 a.nm r = step a p.2 a.nm r
      rw [hp]
    rw [List.any_eq_false]
    intro p hp
    unfold badPair
    rw [this p hp]
    cases mkAt a p.2 <;> decide
  rw [hdiag] at e4
  rw [call_law_bent_right]
  have ebl : bList [dN a.nm] = M.pure (.lst true (a.nm.map .str)) := rfl
  simp [b80, ebl, e1, e3, e4, need_len, toLine]
  refine Tri.bindF (s_machine_bent ha.good hn) fun d1 hd1 => ?_
  obtain ⟨d2, e5, h5⟩ := s_turned_mark (w := w) (k := k + 5) ha.good
  rw [e5, pure_bind']
  rw [mapO_some (p := fun d => !isNone d) (g := fun d => d)]
  rotate_left
  · intro d hd
    have hp : plain d = true := by
      simp at hd
      rcases hd with rfl | rfl
      · exact hd1.1
      · rcases h5 with rfl | h5
        · rfl
        · exact h5.1
    rw [isnot_non hp]
    cases isNone d <;> simp
  have hB : ∀ d ∈ ([d1, d2].filter fun d => !isNone d), BadM d := by
    intro d hd
    rw [List.mem_filter] at hd
    have h := hd.1
    simp at h
    rcases h with rfl | rfl
    · exact hd1
    · rcases h5 with rfl | h5
      · simp [isNone] at hd
      · exact h5
  have hlen : ([d1, d2].filter fun d => !isNone d).length ≤ 2 := List.length_filter_le ..
  rw [List.map_id'' (fun _ => rfl)]
  generalize ([d1, d2].filter fun d => !isNone d) = bs at *
  rw [noX_pure, pure_bind', need_len (toLine (by omega)), pure_bind']
  have hpF := plain_dPs (ord F)
  refine Tri.weaken (Ret.tri (S := fun d => d = .bl true) ?_) fun d s h => h
  refine forL_all (fun (j : Slot × Slot × Slot) => [.val (.loc p), .val (dM a), .val (dM b), .val (.lst true (ns.map .str)), .val (.tup ((ord F).map dP)), .val (.lst true [d1, d2]), j.1, j.2.1, j.2.2, .un, .un]) ?_ ?_ (j := (.un, .un, .un))
  · intro d hd j Q hQ
    have hb' := hB d hd
    have pa := ha.good.plain
    have pb := hb.good.plain
    simp
    rw [mapO_map (g := fun x => .tup [.str x, .int 3])]
    rotate_left
    · intro x hx
      simp [need_len, toLine]
    rw [noX_pure, pure_bind', need_len (toLine (by rw [List.length_map]; omega)), pure_bind']
    have w1 : ∀ c, callF pg w (k + 6) 16 [.tup [.str "within", d, dM a], c] = M.pure (.bl false) := fun c => acc_bad hb'.1 pa (by rw [hb'.2]; rfl)
    have w2 : ∀ c, callF pg w (k + 6) 16 [.tup [.str "within", dM a, d], c] = M.pure (.bl false) := fun c => acc_bad pa hb'.1 (by rw [hb'.2]; simp)
    have w3 : ∀ c, callF pg w (k + 6) 16 [.tup [.str "within", d, d], c] = M.pure (.bl false) := fun c => acc_bad hb'.1 hb'.1 (by rw [hb'.2]; rfl)
    have w4 : ∀ r c, callF pg w (k + 6) 16 [.tup [.str "outside", d, dM b, r], c] = M.pure (.bl false) := fun r c => acc_bad2 hb'.1 pb (by rw [hb'.2]; rfl)
    have w5 : ∀ r c, callF pg w (k + 6) 16 [.tup [.str "outside", dM b, d, r], c] = M.pure (.bl false) := fun r c => acc_bad2 pb hb'.1 (by rw [hb'.2]; simp)
    have ad : ∀ (f f' : Bool) (u v : List D), u.length + v.length ≤ 100 → binD .Add (.lst f u) (.lst f' v) = M.pure (.lst true (u ++ v)) := fun f f' u v h => binD_addL (toLine (by omega))
    simp [need_len, toLine, w1, w2, w3, w4, w5, ad, mul_falses, eq_falses]
    have q := hQ
    simp at q
    exact Ret.pure (q _ _ _)
  · intro j
    have a1 : ∀ c, callF pg w (k + 6) 16 [.tup [.str "within", dM a], c] = M.pure (.bl false) := fun c => acc_short (k := k + 5) _ c
    have a2 : ∀ c, callF pg w (k + 6) 16 [.tup [.str "inside", dM a, dM a], c] = M.pure (.bl false) := fun c => acc_inside (k := k + 5) _ _ c
    simp [need_len, toLine, a1, a2]
    exact Ret.pure rfl
end K69

set_option linter.all false
set_option autoImplicit false
set_option maxRecDepth 100000
set_option maxHeartbeats 1000000
namespace K69
open PySem PySem.Spec L2 Bc
variable {w k : Nat}
theorem inT_str {x : Str} {ns : List Str} : cmpD .In (.str x) (.tup (ns.map .str)) = M.pure (.bl (decide (x ∈ ns))) := by
  refine cmpD_in ?_
  have h1 : (flatD (.str x) && (ns.map D.str).all flatD) = true := by
    rw [List.all_map, Bool.and_eq_true, List.all_eq_true]
    exact ⟨rfl, fun _ _ => rfl⟩
  have h2 : ∀ ys : List D, (flatD (.str x) && ys.all flatD) = true → inD (.str x) (.tup ys) = some (ys.any fun e => eqFlat e (.str x)) := fun ys h => by
    simp only [inD, h]
    rfl
  rw [h2 _ h1, List.any_map]
  congr 1
  rw [Bool.eq_iff_iff, List.any_eq_true, decide_eq_true_eq]
  constructor
  · rintro ⟨z, hz, e⟩
    have e : (z == x) = true := e
    have : z = x := by simpa using e
    exact this ▸ hz
  · intro h
    refine ⟨x, h, ?_⟩
    show (x == x) = true
    simp
/-- what is known of the two names in order -/
theorem two_of {x y : Str} (hx : Wd x) (hy : Wd y) (h : ltS x y = true) : Two x y := ⟨hx.ok, hy.ok, h, hx.word, hy.word⟩
theorem ltS_total {x y : Str} (h : x ≠ y) (h' : ltS x y = false) : ltS y x = true := by
  unfold ltS at *
  have h' := of_decide_eq_false h'
  have h1 : ¬ x.cps.toList = y.cps.toList := fun e => h (by
    obtain ⟨⟨a⟩⟩ := x
    obtain ⟨⟨b⟩⟩ := y
    have : a = b := e
    rw [this])
  apply decide_eq_true
  rcases List.le_iff_lt_or_eq.1 (List.not_lt.1 h') with h2 | h2
  · exact h2
  · exact absurd h2.symm h1
theorem sort_two {x y : Str} : bSorted [.lst true [.str x, .str y]] = M.pure (.lst true (if ltS y x then [.str y, .str x] else [.str x, .str y])) := by
  have : sortD [.str x, .str y] = some (if ltS y x then [.str y, .str x] else [.str x, .str y]) := by
    have e : ltCps y.cps.toList x.cps.toList = ltS y x := PyProof.Rows.ltCps_eq _ _
    simp only [sortD, asInts, asStrs, Option.map_some, sortS, insS, e]
    cases ltS y x <;> rfl
  have e : ∀ xs, bSorted [.lst true xs] = (ofOpt (sortD xs)).bind fun ys => M.pure (.lst true ys) := fun xs => rfl
  rw [e, this]
  rfl
theorem ltS_irr {x y : Str} (h : ltS x y = true) : ltS y x = false := decide_eq_false (List.lt_asymm (of_decide_eq_true h))
/-- one of the three lists of names -/
theorem sel {lo hi x y : Str} (h : x = lo ∧ y = hi ∨ x = hi ∧ y = lo) {j : Nat} (hj : j < 3) : ∃ i i', (i || i') = true ∧ L2.atI [D.lst true [.str x], .lst true [.str lo, .str hi], .lst true [.str y]] (j : Nat) = some (.lst true ((pick lo hi i i').map .str)) := by
  rw [atI_ofNat]
  match j, hj with
  | 0, _ =>
    rcases h with ⟨rfl, rfl⟩ | ⟨rfl, rfl⟩
    · exact ⟨true, false, rfl, rfl⟩
    · exact ⟨false, true, rfl, rfl⟩
  | 1, _ => exact ⟨true, true, rfl, rfl⟩
  | 2, _ =>
    rcases h with ⟨rfl, rfl⟩ | ⟨rfl, rfl⟩
    · exact ⟨false, true, rfl, rfl⟩
    · exact ⟨true, false, rfl, rfl⟩
theorem pick_filter {lo hi : Str} (h : Two lo hi) {i j i' j' : Bool} : ([lo, hi].filter fun z => decide (z ∈ pick lo hi i j ++ pick lo hi i' j')) = pick lo hi (i || i') (j || j') := by
  have ne := h.ne
  have ne' : ¬ hi = lo := fun e => ne e.symm
  cases i <;> cases j <;> cases i' <;> cases j' <;> simp [pick, ne, ne', List.filter_cons]
theorem s_right {p n : Nat} (hn : n ≤ 1000) (hw : 200 ≤ w) : Tri (Pur p n) (callF pg w (k + 8) 43 [.loc p]) fun d s => d = .bl true ∧ Pur p (n + 1000) s := by
  rw [call_law_right]
  simp [b81, need_len, toLine]
  refine Tri.bindF (s_two_names (p := p) (n := n) (by omega)) fun d hd => ?_
  obtain ⟨x, y, rfl, hx, hy, hne⟩ := hd
  simp [need_len, toLine, sort_two]
  obtain ⟨lo, hi, h2, hb, hxy⟩ : ∃ lo hi, Two lo hi ∧ (if ltS y x = true then [D.str y, D.str x] else [D.str x, D.str y]) = [.str lo, .str hi] ∧ (x = lo ∧ y = hi ∨ x = hi ∧ y = lo) := by
    cases e : ltS y x with
    | true => exact ⟨y, x, two_of hy hx e, rfl, .inr ⟨rfl, rfl⟩⟩
    | false => exact ⟨x, y, two_of hx hy (ltS_total (fun e => hne e.symm) e), rfl, .inl ⟨rfl, rfl⟩⟩
  rw [hb]
  refine Tri.bindF (s_draw (p := p) (n := n + 18) (many := 3) (by decide) (by decide) (by omega)) fun d hd => ?_
  obtain ⟨j1, rfl, hj1⟩ := hd
  obtain ⟨i, j, hij, e1⟩ := sel hxy hj1
  simp [e1]
  refine Tri.bindF (s_machine (p := p) (n := n + 19) (h2.nms hij) (by omega)) fun d hd => ?_
  obtain ⟨a, rfl, ga, na⟩ := hd
  have pa : PN lo hi a i j := ⟨ga, hij, na⟩
  try simp
  refine Tri.bindF (s_draw (p := p) (n := n + 59) (many := 3) (by decide) (by decide) (by omega)) fun d hd => ?_
  obtain ⟨way, rfl, hway⟩ := hd
  simp
  refine Tri.bindF (s_draw (p := p) (n := n + 60) (many := 3) (by decide) (by decide) (by omega)) fun d hd => ?_
  obtain ⟨j2, rfl, hj2⟩ := hd
  obtain ⟨i', j', hij', e2⟩ := sel hxy hj2
  simp [e2]
  refine Tri.bindF (s_machine (p := p) (n := n + 61) (h2.nms hij') (by omega)) fun d hd => ?_
  obtain ⟨b, rfl, gb, nb⟩ := hd
  have pb : PN lo hi b i' j' := ⟨gb, hij', nb⟩
  try simp
  refine Tri.bindF (F := fun r => ∃ m i j, PN lo hi m i j ∧ r = (Fl.nx, [.val (.loc p), .val (.lst true [.str lo, .str hi]), .val (dM a), .val (.int (way : Nat)), .val (dM m), .un, .val (.str x), .val (.str y), .un])) (S := fun _ s => Pur p (n + 120) s) ?_ fun r hr => ?_
  · by_cases h1 : way < 2
    · rw [if_pos (show (way : Int) < 2 by omega)]
      by_cases h0 : way = 0
      · rw [if_pos h0, pure_bind']
        exact Tri.pure fun s hs => ⟨⟨a, i, j, pa, rfl⟩, hs.mono (by omega)⟩
      · rw [if_neg h0]
        refine Tri.bindF (s_more_marks (p := p) (n := n + 61 + 40) ga (by omega)) fun d hd => ?_
        obtain ⟨m, rfl, gm, nm⟩ := hd
        exact Tri.pure fun s hs => ⟨⟨m, i, j, ⟨gm, hij, by rw [nm, na]⟩, rfl⟩, hs.mono (by omega)⟩
    · rw [if_neg (show ¬ (way : Int) < 2 by omega)]
      exact Tri.pure fun s hs => ⟨⟨b, i', j', pb, rfl⟩, hs.mono (by omega)⟩
  obtain ⟨m, i2, j2, pm, rfl⟩ := hr
  have hadd : binD .Add (dN a.nm) (dN m.nm) = M.pure (.tup ((pick lo hi i j ++ pick lo hi i2 j2).map .str)) := by
    rw [na, pm.nm]
    have h5 := (h2.nms hij).len
    have h6 := (h2.nms pm.hij).len
    have e : binD .Add (.tup ((pick lo hi i j).map D.str)) (.tup ((pick lo hi i2 j2).map D.str)) = M.pure (.tup ((pick lo hi i j).map .str ++ (pick lo hi i2 j2).map .str)) := addTn (by rw [List.length_map, List.length_map]; omega)
    rw [List.map_append]
    exact e
  simp [hadd]
  have hmf := mapO_mapF (f := fun d => (cmpD .In d (.tup ((pick lo hi i j ++ pick lo hi i2 j2).map .str))).bind fun a => (truM a).bind fun a => (if a = true then M.pure true else M.pure false).bind fun b => if b = true then M.pure (some d) else M.pure none)
    (p := fun z => decide (z ∈ pick lo hi i j ++ pick lo hi i2 j2)) (e := D.str) (g := D.str) (xs := [lo, hi]) (by
      intro z hz
      rw [inT_str]
      by_cases e : z ∈ pick lo hi i j ++ pick lo hi i2 j2 <;> simp [e])
  rw [pick_filter h2] at hmf
  simp only [List.map_cons, List.map_nil, List.map_append] at hmf
  rw [hmf]
  have h7 := (both_of h2 pa pm).hn.len
  simp [need_len, toLine (show (pick lo hi (i || i2) (j || j2)).length ≤ 16777216 by omega)]
  refine Tri.bindF (s_within_right (p := p) (n := n + 120) (k := k) h2 pa pm (by omega) (by omega)) fun d hd => ?_
  subst hd
  simp
  refine Tri.bindF (s_outside_right (p := p) (n := n + 120 + 3) (k := k) h2 pa pm (by omega) hw) fun d hd => ?_
  subst hd
  simp
  exact (s_bent_right (p := p) (n := n + 120 + 3 + 16) (k := k) h2 pa pm (by omega) hw h7.2).weaken fun d s h => ⟨h.1, h.2.mono (by omega)⟩
theorem nobs_ints (a b c : Int) : nobs [.int a, .int b, .int c] = true := rfl
theorem pow1018 : binD .Pow (.int 10) (.int 18) = M.pure (.int 1000000000000000000) := by kernel_rfl
theorem s_purse (c : Int) : Tri (fun _ => True) (callF pg w (k + 1) 22 [.int c]) fun d s => ∃ p, d = .loc p ∧ Pur p 0 s := by
  rw [call_law_purse]
  have hmod : binD .Mod (.int c) (.int 2147483563) = M.pure (.int (c % 2147483563)) := binD_mod (by decide)
  obtain ⟨b, hb, e⟩ : ∃ b : Int, 0 ≤ b ∧ evE (cl w k) (.ite (.or (.cmp .Lt (.var 0) (.int 0)) (.cmp .GtE (.var 0) (.bin .Pow (.int 10) (.int 18)))) (.bi .abs (.cons (.bi .int1 (.cons (.var 0) .nil)) .nil)) (.int 0)) [.val (.int c), .un] = M.pure (.int b) := by
    by_cases h1 : c < 0
    · exact ⟨-c, by omega, by simp [h1]⟩
    · by_cases h2 : (1000000000000000000 : Int) ≤ c
      · exact ⟨c, by omega, by simp [h1, pow1018, h2]⟩
      · exact ⟨0, by omega, by simp [h1, pow1018, h2]⟩
  simp only [b60, evSs_cons, evS_asg, e, pure_bind']
  simp [hmod, need_len, toLine]
  intro s hs
  refine ⟨.loc s.length, s ++ [[.int (c % 2147483563), .int b, .int 0]], ?_, s.length, rfl, c % 2147483563, b, 0, ?_, Int.emod_nonneg _ (by decide), Int.emod_lt_of_pos _ (by decide), hb, by omega, by omega⟩
  · have : newLoc [.int (c % 2147483563), .int b, .int 0] s = .ok (.loc s.length, s ++ [[.int (c % 2147483563), .int b, .int 0]]) := by
      unfold newLoc
      rw [nobs_ints]
      rfl
    exact this
  · rw [List.getElem?_append_right (Nat.le_refl _), Nat.sub_self]
    rfl
theorem s_cell (ns : List Int) {t : Nat} (ht : t ≤ 10) : Ret (callF pg w (k + 1) 21 [.ro (ns.map .int), .int (t : Nat)]) fun r => ∃ c, r = .int c := by
  rw [call_law_cell]
  by_cases h : t < ns.length
  · simp [b59, h, atI_ofNat]
    exact Ret.pure ⟨_, rfl⟩
  · have hmod : ∀ x : Int, binD .Mod (.int x) (.int 2147483563) = M.pure (.int (x % 2147483563)) := fun x => binD_mod (by decide)
    have hq : (t : Int) * (t : Int) ≤ 100 ∧ 0 ≤ (t : Int) * (t : Int) := by
      have := Nat.mul_le_mul ht ht
      exact ⟨by exact_mod_cast this, by exact_mod_cast Nat.zero_le (t * t)⟩
    have m1 : binD .Mult (.int (t : Nat)) (.int (t : Nat)) = M.pure (.int ((t : Int) * t)) := binD_mul (mulOk_small (by omega) (by omega))
    have m2 : binD .Mult (.int 17) (.int (t : Nat)) = M.pure (.int (17 * (t : Int))) := binD_mul (mulOk_small (by omega) (by omega))
    have m3 : binD .Mult (.int 68927) (.int ((t : Int) * t + 17 * t + 3)) = M.pure (.int (68927 * ((t : Int) * t + 17 * t + 3))) := binD_mul (mulOk_small (by omega) (by omega))
    have hs : sliceD (.ro (ns.map .int)) none (some 3) = M.pure (.lst true ((ns.take 3).map .int)) := by
      show (M.pure (D.lst true (cutD (ns.map .int) none (some ((3 : Nat) : Int)))) : M D) = _
      rw [cut_to, List.map_take]
    simp [b59, h, m1, m2, m3, hmod, hs]
    rw [← List.map_take]
    refine forL_ret (e := fun c : Int => D.int c) (fun (a : Int) (j : Slot) => [.val (.ro (ns.map .int)), .val (.int (t : Nat)), .val (.int a), j])
      (fun a c => (a * 52361 + c) % 2147483563) (fun a => 0 ≤ a ∧ a < 2147483563) (xs := ns.take 3) (a := 68927 * ((t : Int) * t + 17 * t + 3) % 2147483563) (j := .un) ⟨Int.emod_nonneg _ (by decide), Int.emod_lt_of_pos _ (by decide)⟩ ?_ ?_
    · intro c hc a j ha
      refine ⟨⟨Int.emod_nonneg _ (by decide), Int.emod_lt_of_pos _ (by decide)⟩, ?_⟩
      have m4 : binD .Mult (.int a) (.int 52361) = M.pure (.int (a * 52361)) := binD_mul (mulOk_small (by omega) (by omega))
      simp [m4, hmod]
      exact Ret.pure ⟨_, rfl⟩
    · intro j hI
      simp
      exact Ret.pure ⟨_, rfl⟩
theorem s_law (ns : List Int) (hl : ns.length ≤ 63) (hw : 200 ≤ w) : Tri (fun _ => True) (callF pg w (k + 9) 44 [.ro (ns.map .int)]) fun d _ => d = .bl true := by
  rw [call_law]
  obtain ⟨N, hN, e⟩ : ∃ N : Nat, N ≤ 6 ∧ (if (2 : Int) < (if ((ns.length : Nat) : Int) < 6 then ((ns.length : Nat) : Int) else 6) then (if ((ns.length : Nat) : Int) < 6 then ((ns.length : Nat) : Int) else 6) else 2) = (N : Int) := by
    by_cases h1 : ns.length < 6
    · rw [if_pos (show ((ns.length : Nat) : Int) < 6 by omega)]
      by_cases h2 : 2 < ns.length
      · exact ⟨ns.length, by omega, if_pos (by omega)⟩
      · exact ⟨2, by omega, if_neg (by omega)⟩
    · rw [if_neg (show ¬ ((ns.length : Nat) : Int) < 6 by omega)]
      exact ⟨6, by omega, if_pos (by omega)⟩
  simp [b82]
  rw [e, itR1_nat (to62 (by omega)), pure_bind']
  refine Tri.bindF (Tri.noX (Tri.pre (tri_mapP (P := fun y => ∃ r : Bool, y = .bl r ∧ r = true) (I := fun _ _ => True) (N := 6) (n := 0) ?_ (by simp; omega)) fun s hs => hs)) fun ys hys => ?_
  · intro d hd n hn Q hQ
    rw [List.mem_map] at hd
    obtain ⟨t, ht, rfl⟩ := hd
    rw [List.mem_range] at ht
    obtain ⟨_, e1, c, rfl⟩ := s_cell (w := w) (k := k + 7) ns (t := t) (by omega)
    rw [e1, pure_bind']
    refine Tri.bind (s_purse (w := w) (k := k + 7) c) fun d => ?_
    intro s hs
    obtain ⟨p, rfl, hp⟩ := hs
    have h := Tri.bind (s_right (w := w) (k := k) (p := p) (n := 0) (by omega) hw) (f := fun y => M.pure (some y)) (R := Q) fun y => Tri.pure fun s hs => hQ _ _ ⟨true, hs.1, rfl⟩ trivial
    exact h s hp
  obtain ⟨bs, rfl, h1, h2⟩ := lift_map (g := D.bl) (G := fun r => r = true) hys.2
  rw [hys.1, List.length_map, List.length_range] at h1
  have hb := bAll_map id bs true
  have hall : bs.all id = true := by
    rw [List.all_eq_true]
    intro b hb
    exact h2 b hb
  rw [hall] at hb
  rw [need_len (toLine (by rw [List.length_map]; omega)), pure_bind']
  rw [show (fun x => D.bl (id x)) = D.bl from rfl] at hb
  rw [hb]
  exact Tri.pure fun s hs => rfl
end K69

set_option linter.all false
set_option autoImplicit false
set_option maxRecDepth 100000
namespace K69
open PySem PySem.Spec L2 Bc
abbrev lawIx : Nat := 44
abbrev lawFr : Fr := frs.getD 44 ⟨Str.empty, top 0, [], 0, .nil⟩
abbrev depth : Nat := 40
theorem lawHolds : ∀ ns : List Int, ns.length ≤ 63 → ∃ wf s, callF (pgOf frs tab) wf depth lawIx [.ro (ns.map .int)] [] = .ok (.bl true, s) := by
  intro ns hl
  obtain ⟨a, s, h, rfl⟩ := s_law (w := 200) (k := 31) ns hl (Nat.le_refl _) [] trivial
  exact ⟨200, s, h⟩
end K69

set_option linter.all false
set_option autoImplicit false
set_option maxRecDepth 100000
set_option maxHeartbeats 0
namespace K69
open PySem PySem.Spec L2 Bc
abbrev endRow : PySem.W.OpenRow := PySem.W.OpenLaw.row PySem.Challenge.rw_bitcounts_k69_whole_machines_accepted
abbrev theHook : PySem.W.Hook := He.hookX 4 (faL ms frs) (fnL frs) (tsL ms tab) [] (exL ms tab)
def looked (s : PySem.W.SharedT) : He.AlX := He.obsX 4 (faL ms frs) (fnL frs) (tsL ms tab) [] (exL ms tab) (HandSHeadRun.getT s)
theorem looked_eq (s : PySem.W.SharedT) : looked s = theHook.obs s.abs := He.obsX_eq (HandSHeadRun.getT_eq s)
def looseL : List Str := [("CLASSES" : PySem.Str), ("NAMES" : PySem.Str), ("__name__" : PySem.Str), ("LETTERS" : PySem.Str), ("LONGEST" : PySem.Str), ("LINES" : PySem.Str), ("is_whole" : PySem.Str), ("is_word" : PySem.Str), ("are_names" : PySem.Str), ("shared" : PySem.Str), ("is_fraction" : PySem.Str), ("is_row" : PySem.Str), ("is_side" : PySem.Str), ("rows_for" : PySem.Str), ("is_plain_rule" : PySem.Str), ("begun" : PySem.Str), ("added" : PySem.Str), ("applied" : PySem.Str), ("place_of" : PySem.Str), ("index_of" : PySem.Str), ("digits_at" : PySem.Str), ("length_of" : PySem.Str), ("values_at" : PySem.Str), ("told_at" : PySem.Str), ("all_values_at" : PySem.Str), ("names_of" : PySem.Str), ("are_rules" : PySem.Str), ("PAIRS" : PySem.Str), ("is_state" : PySem.Str), ("are_ways" : PySem.Str), ("is_machine" : PySem.Str), ("follower" : PySem.Str), ("keeps" : PySem.Str), ("are_pairs" : PySem.Str), ("is_closed" : PySem.Str), ("POINTS" : PySem.Str), ("is_ahead" : PySem.Str), ("is_point" : PySem.Str), ("are_points" : PySem.Str), ("begins" : PySem.Str), ("is_made" : PySem.Str), ("has_rows" : PySem.Str), ("is_span" : PySem.Str), ("LENGTHS" : PySem.Str), ("GREATEST" : PySem.Str), ("MOST" : PySem.Str), ("accepts" : PySem.Str), ("is_empty" : PySem.Str), ("is_number_of" : PySem.Str), ("are_numbers" : PySem.Str), ("are_alike" : PySem.Str), ("are_rules_so" : PySem.Str), ("is_zero_at" : PySem.Str), ("is_relation" : PySem.Str), ("are_machines_so" : PySem.Str), ("_law_cell" : PySem.Str), ("_law_purse" : PySem.Str), ("_law_draw" : PySem.Str), ("_law_one_of" : PySem.Str), ("_law_name" : PySem.Str), ("_law_two_names" : PySem.Str), ("_law_so" : PySem.Str), ("_law_rows" : PySem.Str), ("_law_end" : PySem.Str), ("_law_machine" : PySem.Str), ("_law_more_marks" : PySem.Str), ("_law_after" : PySem.Str), ("_law_following" : PySem.Str), ("_law_met" : PySem.Str), ("_law_ordered" : PySem.Str), ("_law_marks_right" : PySem.Str), ("_law_runs" : PySem.Str), ("_law_within_right" : PySem.Str), ("_law_outside_right" : PySem.Str), ("_law_machine_bent" : PySem.Str), ("_law_turned_mark" : PySem.Str), ("_law_bent_right" : PySem.Str), ("_law_right" : PySem.Str)]
/-- a world where one question is answered by b -/
def wB (w : World) (b : Bool) : World := { w with params := { w.params with followText := fun s => match decide (s = "special-get-raises") with | true => b | false => w.params.followText s } }
theorem wB_eq (w : World) : wB w (w.params.followText "special-get-raises") = w := by
  have e : (fun s => match decide (s = "special-get-raises") with | true => w.params.followText "special-get-raises" | false => w.params.followText s) = w.params.followText := by
    funext s
    by_cases h : s = "special-get-raises"
    · subst h; simp
    · simp [h]
  show ({ w with params := { w.params with followText := _ } } : World) = w
  rw [e]
theorem ranT (w : World) : HandSHeadRun.RunEq endRow (PySem.W.view endRow.prog [82]) theHook looked 6000 looseL (wB w true) := by
  intro os
  kernel_rfl
theorem ranF (w : World) : HandSHeadRun.RunEq endRow (PySem.W.view endRow.prog [82]) theHook looked 6000 looseL (wB w false) := by
  intro os
  kernel_rfl
theorem ran (w : World) : HandSHeadRun.RunEq endRow (PySem.W.view endRow.prog [82]) theHook looked 6000 looseL w := by
  have h : ∀ b, HandSHeadRun.RunEq endRow (PySem.W.view endRow.prog [82]) theHook looked 6000 looseL (wB w b) := fun b => by
    cases b with
    | true => exact ranT w
    | false => exact ranF w
  have z := h (w.params.followText "special-get-raises")
  rw [wB_eq] at z
  exact z
theorem facts {P : Program} {w : World} {K : PySem.W.Frag} {h : Heap} {mg : Str → Option Value} {f : Addr} (KX : K.In h) (G : h.Ns mainGlobals mg) (hfa : mg ("law" : Str) = some (.ref f)) (c : He.SaysX (faL ms frs) (fnL frs) (tsL ms tab) [] (exL ms tab) w h K) :
    ∃ fd : FuncData, (∀ (s : Shared) (v : Value), BindsTo s fd ⟨[v], []⟩ [("_law_script", v)]) ∧ ∀ base : Heap, K.In base → base.Ns mainGlobals mg → FnOk P w K mg base CX0 depth f fd ["_law_script"] (Bc.spLaw K 63) := by
  have T : Top ⟨K, fun _ => 0, fun _ => 0, fun _ => Str.empty, fun _ => .none⟩ ms frs tab P w K mg := top_of rfl KX G c rfl (by decide +kernel) check
  obtain ⟨addr, fd, F, hm⟩ := T.at_ lawIx lawFr rfl
  have e := hm.symm.trans hfa
  cases e
  have b := FunD.bindsA (ps := ["_law_script"]) F fun _ _ _ _ _ _ us hl => match us, hl with | [_], _ => rfl
  exact ⟨fd, fun s v => b s [v] rfl, fun base _ _ => law_ok T (f := lawIx) (r := lawFr) rfl F rfl lawHolds⟩
end K69
open PySem PySem.W PySem.Calls PyProof.Rows
theorem PySem.Challenge.cw_bitcounts_k69_whole_machines_accepted_holds : PySem.Challenge.rw_bitcounts_k69_whole_machines_accepted.Holds := by
  w_on; o_law
  refine HandSHeadRun.head_any (r := K69.endRow) (q := view K69.endRow.prog [82]) (H := K69.theHook) (ob := K69.looked) (M := 6000) (loose := K69.looseL) (d := HandSHeadRun.topDef K69.endRow.prog 82) (kwd := []) K69.looked_eq
    (by kernel_rfl) (fun s => by kernel_rfl) K69.ran (by kernel_rfl) (by kernel_rfl) (by kernel_rfl) (by rfl) (by first | assumption | decide +kernel) (by decide +kernel) ⟨rfl, rfl, rfl, rfl, rfl, by decide +kernel⟩ ?hw ?hc
  case hw => w_witness2
  case hc =>
    refine L2.walk_ofE (l := PySem.Challenge.rw_bitcounts_k69_whole_machines_accepted) (n := 63) (k := K69.depth) (x := "_law_script") (CX := L2.CX0) rfl (by decide) (by kernel_rfl) ⟨rfl, by decide, by decide⟩ ?F (fun _ _ _ _ z => z)
    intro w mg fa h Y G hmg0
    obtain ⟨K, KX, c⟩ := Y
    have hmg : mg ("law" : PySem.Str) = some (.ref fa) := by
      have e : (HandSHeadRun.topDef K69.endRow.prog 82).name = ("law" : PySem.Str) := by kernel_rfl
      rw [← e]
      exact hmg0
    obtain ⟨fd, hb, hF⟩ := K69.facts (P := (PySem.Challenge.rw_bitcounts_k69_whole_machines_accepted).prog) (w := w) KX G hmg c
    exact ⟨K, fd, Bc.spLaw K 63, KX, hb, fun H a ns hl _ hS => ⟨a, ns, rfl, hl, hS, fun _ => rfl⟩, hF⟩
