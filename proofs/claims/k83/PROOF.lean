import PyProof.Rows.All
import PySem.Challenge.RW_streetways_k83_whole_texts_of_towns
import Wide.All
import OpenK.AllK
import Wide.FinOn
import HandS.ForMost
import HandS.Defaults
import HandS.Exc
import HandS.Codes
import HandS.Lambda
import HandS.Nested
import HandS.TupAny
import HandS.Deep
import HandS.Zip
import HandS.Rev
import HandS.IsInst
import HandS.Property
import HandS.OwnEq
import HandS.FStr
import HandS.Conv
import HandS.TryOnly
import HandS.More
import KE.SortData
import KE.DataCmp
import KE.DataEq
import KE.DataAny
import KE.DataIsa
import KE.DataMinMax
import HandS.TupLen
import HandS.ExcOwn
import KE.GoesEnum
import KE.GoesMore
import HandS.Style
import HandS.Small
import HandS.HeadHook1
import HandS.HeadHook2
import HandS.HeadHook3
import HandS.HeadWalk
import HandS.Head0
import HandS.Head1
import HandS.Head2
set_option Elab.async false
set_option linter.all false
set_option maxRecDepth 100000
set_option maxHeartbeats 4000000
/-! Layer F, part 1: values, environments, the small language, its meaning. -/
namespace Fl
open PySem PySem.Spec PyProof.Rows L2

/-- the largest length -/
abbrev SL : Nat := 16777216
/-- data -/
inductive D where
  | non
  | bl (b : Bool)
  | int (i : Int)
  | str (x : Str)
  | tup (xs : List D)
  | tk (xs : List D)
  | lst (xs : List D)
  | dk (kvs : List (Key × D))
  | ck (kvs : List (Str × D))
  | dt (kvs : List (List Key × D))
  | ins (C : Nat) (fs : List (Nat × D))
  | fn (k : Nat) (caps : List D)
  deriving Inhabited

/-- objects that change -/
inductive MO where
  | l (xs : List D)
  | k (kvs : List (Key × D))
  | t (kvs : List (List Key × D))
  | i (C : Nat) (fs : List (Nat × D))
/-- a slot: data, or an object (own: made here; else handed in) -/
inductive SV where
  | d (v : D)
  | m (own : Bool) (o : MO)
abbrev Env := List (Option SV)
/-- what an expression gives: data, a new object, the object of a slot -/
inductive RV where
  | d (v : D)
  | n (o : MO)
  | sl (i : Nat)
structure Exn where
  cls : Nat
  fs : List (Nat × D)
inductive R (α : Type) where
  | ok (a : α) (ρ : Env)
  | ex (e : Exn) (ρ : Env)
  | bad
def R.bind {α β : Type} (r : R α) (f : α → Env → R β) : R β := match r with
  | .ok a ρ => f a ρ
  | .ex e ρ => .ex e ρ
  | .bad => .bad
def R.opt {α : Type} (o : Option α) (ρ : Env) : R α := match o with
  | some a => .ok a ρ
  | none => .bad

def fz : MO → D
  | .l xs => .lst xs
  | .k kvs => .dk kvs
  | .t kvs => .dt kvs
  | .i C fs => .ins C fs

/-- the view of a result, to be read -/
def view (ρ : Env) : RV → Option D
  | .d v => some v
  | .n o => some (fz o)
  | .sl i => match ρ[i]? with
    | some (some (.m _ o)) => some (fz o)
    | some (some (.d v)) => some v
    | _ => none
def views (ρ : Env) : List RV → Option (List D)
  | [] => some []
  | r :: rs => match view ρ r with
    | some d => match views ρ rs with
      | some ds => some (d :: ds)
      | none => none
    | none => none
/-- a result as data: a slot's own object is laid to rest -/
def toD (r : RV) (ρ : Env) : R D := match r with
  | .d v => .ok v ρ
  | .n o => .ok (fz o) ρ
  | .sl i => match ρ[i]? with
    | some (some (.m true o)) => .ok (fz o) (ρ.set i (some (.d (fz o))))
    | some (some (.d v)) => .ok v ρ
    | _ => .bad
def toDs : List RV → Env → R (List D)
  | [], ρ => .ok [] ρ
  | r :: rs, ρ => (toD r ρ).bind fun d ρ1 => (toDs rs ρ1).bind fun ds ρ2 => .ok (d :: ds) ρ2

/-! ### equality -/
mutual
def D.py : D → Option PyData
  | .non => some .none
  | .bl b => some (.bool b)
  | .int i => some (.int i)
  | .str x => some (.str x)
  | .tup xs => match pyL xs with
    | some ps => some (.tuple ps)
    | none => none
  | .tk xs => match pyL xs with
    | some ps => some (.tuple ps)
    | none => none
  | .lst xs => match pyL xs with
    | some ps => some (.list ps)
    | none => none
  | .dk _ => none
  | .ck _ => none
  | .dt _ => none
  | .ins _ _ => none
  | .fn _ _ => none
def pyL : List D → Option (List PyData)
  | [] => some []
  | x :: xs => match x.py with
    | some p => match pyL xs with
      | some ps => some (p :: ps)
      | none => none
    | none => none
end
/-- == -/
def eqD (d e : D) : Option Bool := match d.py, e.py with
  | some p, some q => if min p.depth q.depth ≤ 60 then some (PyData.eqv p q) else none
  | _, _ => none
/-- <, >, <=, >= by the data's own order -/
inductive Od where
  | lt | gt | le | ge
  deriving DecidableEq
def Od.of : Od → PyData → PyData → Bool
  | .lt, p, q => W.dataLt p q
  | .gt, p, q => W.dataLt q p
  | .le, p, q => !W.dataLt q p
  | .ge, p, q => !W.dataLt p q
def isNone : PyData → Bool
  | .none => true
  | _ => false
def ordD (o : Od) (d e : D) : Option Bool := match d.py, e.py with
  | some p, some q => if W.alike p q = true ∧ min p.depth q.depth ≤ 60 ∧ isNone p = false then some (o.of p q) else none
  | _, _ => none
def ltD (d e : D) : Option Bool := ordD .lt d e
/-- x in .. -/
def memL (d : D) (xs : List D) : Option Bool := match d.py, pyL xs with
  | some p, some ps => if min (PyData.depthAll ps) p.depth ≤ 60 then some (ps.any fun y => PyData.eqv y p) else none
  | _, _ => none

/-- a key of a dict: a number, a text -/
def D.key : D → Option Key
  | .int i => some (.inl i)
  | .str x => some (.inr x)
  | _ => none
def keysOf : List D → Option (List Key)
  | [] => some []
  | x :: xs => match x.key with
    | some k => match keysOf xs with
      | some ks => some (k :: ks)
      | none => none
    | none => none
def kD : Key → D
  | .inl i => .int i
  | .inr x => .str x
/-- .. or a tuple of these -/
def D.keyT : D → Option (List Key)
  | .tup xs => keysOf xs
  | _ => none
def dGet {κ β : Type} [DecidableEq κ] : List (κ × β) → κ → Option β
  | [], _ => none
  | (k, v) :: r, x => if k = x then some v else dGet r x
def dPut {κ β : Type} [DecidableEq κ] (l : List (κ × β)) (x : κ) (v : β) : List (κ × β) :=
  if (l.any fun p => decide (p.1 = x)) = true then l.map (fun p => if p.1 = x then (p.1, v) else p) else l ++ [(x, v)]
def dDrop {κ β : Type} [DecidableEq κ] (l : List (κ × β)) (x : κ) : List (κ × β) := l.filter fun p => decide (p.1 ≠ x)

/-! ### operators -/
def bins : Operator → D → D → Option RV
  | .Add, .int i, .int j => some (.d (.int (i + j)))
  | .Add, .str x, .str y => if x.length + y.length ≤ SL then some (.d (.str (x ++ y))) else none
  | .Add, .lst xs, .lst ys => if xs.length + ys.length ≤ SL then some (.n (.l (xs ++ ys))) else none
  | .Add, .tup xs, .tup ys => if xs.length + ys.length ≤ SL then some (.d (.tup (xs ++ ys))) else none
  | .Sub, .int i, .int j => some (.d (.int (i - j)))
  | .Mult, .int i, .int j => if (-18446744073709551616 < i ∧ i < 18446744073709551616) ∨ (-18446744073709551616 < j ∧ j < 18446744073709551616) then some (.d (.int (i * j))) else none
  | .FloorDiv, .int i, .int j => if 0 < j ∧ j < 1073741824 then some (.d (.int (i / j))) else none
  | .Mod, .int i, .int j => if 0 < j then some (.d (.int (i % j))) else none
  | .Pow, .int i, .int j => if 0 ≤ j ∧ j ≤ 1000000 ∧ i.natAbs < 18446744073709551616 then some (.d (.int (i ^ j.toNat))) else none
  | .LShift, .int i, .int j => if 0 ≤ j ∧ j ≤ 1000000 ∧ i.natAbs < 18446744073709551616 then some (.d (.int (i * 2 ^ j.toNat))) else none
  | .RShift, .int i, .int j => if 0 ≤ j then some (.d (.int (i / 2 ^ j.toNat))) else none
  | .BitAnd, .int i, .int j => some (.d (.int (Builtin.bitAnd i j)))
  | .BitOr, .int i, .int j => some (.d (.int (Builtin.bitOr i j)))
  | .BitXor, .int i, .int j => some (.d (.int (Builtin.bitXor i j)))
  | _, _, _ => none
def uns : UnaryOp → D → Option RV
  | .USub, .int i => some (.d (.int (-i)))
  | .Invert, .int i => some (.d (.int (Builtin.bitNot i)))
  | _, _ => none
def memD (d : D) : D → Option Bool
  | .lst xs => memL d xs
  | .tup xs => memL d xs
  | .tk xs => memL d xs
  | .str y => match d with
    | .str x => some (!(Builtin.Str.occurrences y x 0 y.length 1).isEmpty)
    | _ => none
  | .dk kvs => match d.key with
    | some k => some (dGet kvs k).isSome
    | none => none
  | .ck kvs => match d with
    | .str z => some (dGet kvs z).isSome
    | _ => none
  | .dt kvs => match d.keyT with
    | some k => some (dGet kvs k).isSome
    | none => none
  | _ => none
def isNon : D → Bool
  | .non => true
  | _ => false
def cmps : CmpOp → D → D → Option Bool
  | .Eq, x, y => eqD x y
  | .NotEq, x, y => (eqD x y).map (!·)
  | .Lt, .int i, .int j => some (decide (i < j))
  | .Lt, x, y => ordD .lt x y
  | .Gt, .int i, .int j => some (decide (j < i))
  | .Gt, x, y => ordD .gt x y
  | .LtE, .int i, .int j => some (decide (i ≤ j))
  | .LtE, x, y => ordD .le x y
  | .GtE, .int i, .int j => some (decide (j ≤ i))
  | .GtE, x, y => ordD .ge x y
  | .Is, x, .non => some (isNon x)
  | .IsNot, x, .non => some (!isNon x)
  | .In, x, y => memD x y
  | .NotIn, x, y => (memD x y).map (!·)
  | _, _, _ => none
/-- truth -/
def truth : D → Option Bool
  | .non => some false
  | .bl b => some b
  | .int i => some (i != 0)
  | .str x => if x.length ≤ SL then some (x.length != 0) else none
  | .lst xs => some (!xs.isEmpty)
  | .tup xs => some (!xs.isEmpty)
  | .tk xs => some (!xs.isEmpty)
  | _ => none
def ixs : D → D → Option D
  | .lst xs, .int i => atI xs i
  | .tup xs, .int i => atI xs i
  | .tk xs, .int i => atI xs i
  | .str z, .int i => if z.length ≤ SL then (atI z.cps.toList i).map fun c => .str ⟨#[c]⟩ else none
  | .dk kvs, d => match d.key with
    | some k => dGet kvs k
    | none => none
  | .ck kvs, .str z => dGet kvs z
  | .dt kvs, d => match d.keyT with
    | some k => dGet kvs k
    | none => none
  | _, _ => none
def cutL {α : Type} (xs : List α) (lo hi : Option Int) : List α := (xs.drop (HT.sIx xs.length 0 lo)).take (HT.sIx xs.length xs.length hi - HT.sIx xs.length 0 lo)
def partD : Option D → Option (Option Int)
  | none => some none
  | some (.int i) => some (some i)
  | _ => none
def sls (d : D) (lo hi : Option Int) : Option RV := match d with
  | .lst xs => some (.n (.l (cutL xs lo hi)))
  | .tup xs => some (.d (.tup (cutL xs lo hi)))
  | .str z => if z.length ≤ SL then some (.d (.str (Txt.slice z lo hi))) else none
  | _ => none

/-! ### built-ins -/
inductive Ty where
  | int | str | bool | tuple | list | dict | cls (C : Nat)
  deriving DecidableEq
def isTy : D → Ty → Bool
  | .bl _, .bool => true
  | .bl _, .int => true
  | .int _, .int => true
  | .str _, .str => true
  | .tup _, .tuple => true
  | .tk _, .tuple => true
  | .lst _, .list => true
  | .dk _, .dict => true
  | .ck _, .dict => true
  | .dt _, .dict => true
  | .ins C _, .cls E => decide (C = E)
  | _, _ => false
def isFn : D → Bool
  | .fn _ _ => true
  | _ => false
def intsOf : List D → Option (List Int)
  | [] => some []
  | .int i :: xs => match intsOf xs with
    | some is => some (i :: is)
    | none => none
  | _ => none
def blsOf : List D → Option (List Bool)
  | [] => some []
  | .bl i :: xs => match blsOf xs with
    | some is => some (i :: is)
    | none => none
  | _ => none
def strsOf : List D → Option (List Str)
  | [] => some []
  | .str i :: xs => match strsOf xs with
    | some is => some (i :: is)
    | none => none
  | _ => none
def seqOf : D → Option (List D)
  | .lst xs => some xs
  | .tup xs => some xs
  | .tk xs => some xs
  | _ => none
inductive Bl where
  | len | abs | int | min | max | sum | all | any | sorted | list | tuple | str | divmod | isi (t : Ty)
  deriving DecidableEq

/-- flat data back -/
def ofPy : PyData → D
  | .bool b => .bl b
  | .int i => .int i
  | .str x => .str x
  | _ => .non
/-- data that may be compared with one another -/
def alikeB (ps : List PyData) : Bool := ps.all fun p => ps.all fun q => W.alike p q
def pyD (d : D) : PyData := d.py.getD .none
def isTupC : PyData → Bool
  | .tuple (_ :: _) => true
  | _ => false
def isFlatK : PyData → Bool
  | .bool _ => true
  | .int _ => true
  | .str _ => true
  | _ => false
def sortL (xs : List D) : Option (List D) := match pyL xs with
  | some ps => if alikeB ps = true ∧ (ps.all isTupC = true ∨ ps.all isFlatK = true) ∧ PyData.depthAll ps ≤ 60 ∧ xs.length ≤ SL then some (xs.mergeSort (W.dataLe false pyD)) else none
  | none => none
/-- the items that may be taken one after another -/
def itemsOf : D → Option (List D)
  | .lst xs => some xs
  | .tup xs => some xs
  | .tk xs => some xs
  | .dk kvs => some (kvs.map fun p => kD p.1)
  | .dt kvs => some (kvs.map fun p => .tup (p.1.map kD))
  | _ => none
def blt : Bl → List D → Option RV
  | .len, [d] => match d with
    | .str x => if x.length ≤ SL then some (.d (.int x.length)) else none
    | .lst xs => some (.d (.int xs.length))
    | .tup xs => some (.d (.int xs.length))
    | .tk xs => some (.d (.int xs.length))
    | .dk kvs => some (.d (.int kvs.length))
    | .dt kvs => some (.d (.int kvs.length))
    | _ => none
  | .abs, [.int i] => some (.d (.int (if i < 0 then -i else i)))
  | .int, [.int i] => some (.d (.int i))
  | .int, [.bl b] => some (.d (.int (b2i b)))
  | .str, [.int i] => if i.natAbs.log2 < 1920 then some (.d (.str (toString i))) else none
  | .min, [.int i, .int j] => some (.d (.int (if j < i then j else i)))
  | .min, [d] => match seqOf d with
    | some xs => (match pyL xs with
      | some (p :: ps) => if alikeB (p :: ps) = true ∧ (p :: ps).all isFlatK = true then some (.d (ofPy (W.minD p ps))) else none
      | _ => none)
    | _ => none
  | .max, [.int i, .int j] => some (.d (.int (if j > i then j else i)))
  | .max, [d] => match seqOf d with
    | some xs => (match pyL xs with
      | some (p :: ps) => if alikeB (p :: ps) = true ∧ (p :: ps).all isFlatK = true then some (.d (ofPy (W.maxD p ps))) else none
      | _ => none)
    | _ => none
  | .sum, [.lst xs] => (intsOf xs).map fun is => .d (.int is.sum)
  | .all, [.lst xs] => (blsOf xs).map fun bs => .d (.bl (bs.all id))
  | .any, [.lst xs] => (blsOf xs).map fun bs => .d (.bl (bs.any id))
  | .sorted, [.lst xs] => (sortL xs).map fun ys => .n (.l ys)
  | .sorted, [.tup xs] => (sortL xs).map fun ys => .n (.l ys)
  | .list, [d] => (itemsOf d).map fun xs => .n (.l xs)
  | .tuple, [.lst xs] => some (.d (.tup xs))
  | .tuple, [.tup xs] => some (.d (.tup xs))
  | .divmod, [.int i, .int j] => if 0 < j ∧ j < 1073741824 then some (.d (.tup [.int (i / j), .int (i % j)])) else none
  | .isi t, [d] => if isFn d = true then none else some (.d (.bl (isTy d t)))
  | _, _ => none
/-- methods that read -/
inductive Mt where
  | append | pop | extend | split | count | index | items | values | get
  deriving DecidableEq
/-- how things are taken -/
inductive Itk where
  | seq | range | enum | zip | items
  deriving DecidableEq
def zipD : List D → List D → List D
  | x :: xs, y :: ys => .tup [x, y] :: zipD xs ys
  | _, _ => []
def enumD : Nat → List D → List D
  | _, [] => []
  | i, x :: xs => .tup [.int i, x] :: enumD (i + 1) xs
def rngD (lo : Int) : Nat → List D
  | 0 => []
  | n + 1 => .int lo :: rngD (lo + 1) n
def sm62 (i : Int) : Bool := decide (-4611686018427387904 ≤ i ∧ i < 4611686018427387904)
def iter : Itk → List D → Option (List D)
  | .seq, [d] => match d with
    | .str x => some (x.cps.toList.map fun c => .str ⟨#[c]⟩)
    | d => seqOf d
  | .range, [.int j] => if sm62 j = true then some (rngD 0 j.toNat) else none
  | .range, [.int i, .int j] => if sm62 i = true ∧ sm62 j = true then some (rngD i (j - i).toNat) else none
  | .enum, [d] => (seqOf d).map (enumD 0)
  | .zip, [.lst xs, .lst ys] => some (zipD xs ys)
  | .zip, [.tup xs, .tup ys] => some (zipD xs ys)
  | .zip, [.tk xs, .tup ys] => some (zipD xs ys)
  | .zip, [.tup xs, .tk ys] => some (zipD xs ys)
  | .zip, [.tk xs, .tk ys] => some (zipD xs ys)
  | .items, [.dk kvs] => some (kvs.map fun p => .tup [kD p.1, p.2])
  | .items, [.dt kvs] => some (kvs.map fun p => .tup [.tup (p.1.map kD), p.2])
  | _, _ => none
/-- methods that read alone -/
def mth : Mt → D → List D → Option RV
  | .split, .str a, [.str b] => if (b.length == 0) = false ∧ a.length + 2 ≤ SL then some (.n (.l ((Txt.split a b).map .str))) else none
  | _, _, _ => none
/-- methods that change an object -/
def mthM : Mt → MO → List D → Option (RV × MO)
  | .append, .l xs, [v] => if xs.length < SL then some (.d .non, .l (xs ++ [v])) else none
  | .pop, .l xs, [] => (xs[xs.length - 1]?).map fun y => (.d y, .l xs.dropLast)
  | .pop, .l xs, [.int i] => if sm62 i = true then (match seqIndex? i xs.length with
    | some k => (xs[k]?).map fun y => (.d y, .l (xs.eraseIdx k))
    | none => none) else none
  | .extend, .l xs, [.lst ys] => if xs.length + ys.length ≤ SL then some (.d .non, .l (xs ++ ys)) else none
  | _, _, _ => none
/-- o[i] = v -/
def putM : MO → D → D → Option MO
  | .l xs, .int i, v => (ixN xs.length i).map fun j => .l (xs.set j v)
  | .k kvs, d, v => match d.key with
    | some k => if kvs.length < SL then some (.k (dPut kvs k v)) else none
    | none => match kvs, d.keyT with
      | [], some k => some (.t [(k, v)])
      | _, _ => none
  | .t kvs, d, v => match d.keyT with
    | some k => if kvs.length < SL then some (.t (dPut kvs k v)) else none
    | none => none
  | _, _, _ => none

/-! ### no lambda with captured names within -/
mutual
def flat : D → Bool
  | .tup xs => flatL xs
  | .tk xs => flatL xs
  | .lst xs => flatL xs
  | .dk kvs => flatK kvs
  | .ck kvs => flatC kvs
  | .dt kvs => flatT kvs
  | .ins _ fs => flatF fs
  | .fn k [] => decide (k < 1000)
  | .fn _ (_ :: _) => false
  | .non => true
  | .bl _ => true
  | .int _ => true
  | .str _ => true
def flatL : List D → Bool
  | [] => true
  | x :: xs => flat x && flatL xs
def flatK : List (Key × D) → Bool
  | [] => true
  | (_, d) :: r => flat d && flatK r
def flatC : List (Str × D) → Bool
  | [] => true
  | (_, d) :: r => flat d && flatC r
def flatT : List (List Key × D) → Bool
  | [] => true
  | (_, d) :: r => flat d && flatT r
def flatF : List (Nat × D) → Bool
  | [] => true
  | (_, d) :: r => flat d && flatF r
end
def flatSV : SV → Bool
  | .d v => flat v
  | .m _ o => flat (fz o)
def flatRV : RV → Bool
  | .d v => flat v
  | .n o => flat (fz o)
  | .sl _ => false
/-! ### the small language -/
/-- a lambda of the text -/
structure LI where
  qual : Str
  params : Arguments
  body : Expr
  scope : Scope
  fr : List Str
inductive E where
  | k (d : D)
  | v (i : Nat)
  | nil
  | cons (a r : E)
  | tup (l : E)
  | lst (l : E)
  | dnew
  | dsp (ks vs : E)
  | bin (op : Operator) (a b : E)
  | un (op : UnaryOp) (a : E)
  | cmp (op : CmpOp) (a b : E)
  | cmp2 (op op2 : CmpOp) (a b c : E)
  | and (a b : E)
  | or (a b : E)
  | not (a : E)
  | ite (c a b : E)
  | ix (a i : E)
  | sl (a lo hi : E)
  | call (f : Nat) (args : E)
  | callK (f na nk : Nat) (args kws : E) (perm : List Nat)
  | callL (f : Nat) (args : E) (g : Nat) (caps : List Nat) (L : LI)
  | app (i : Nat) (args : E)
  | new (C f : Nat) (args : E)
  | att (o : E) (f : Nat)
  | blt (b : Bl) (args : E)
  | mth (m : Mt) (o args : E)
  | mthM (m : Mt) (i : Nat) (args : E)
  | comp (elt : E) (tg : List Nat) (many : Bool) (it : Itk) (src cond : E) (own : List Nat)
  | fstr (l : E)
  | fv (a : E)
/-- where a value goes -/
inductive T1 where
  | s (i : Nat)
  | x (i : Nat) (ix : E)
inductive S where
  | nil
  | cons (s r : S)
  | asg (i : Nat) (e : E)
  | asgT (ts : List T1) (e : E)
  | par (is : List Nat) (es : E)
  | put (i : Nat) (ix e : E)
  | fset (i f : Nat) (e : E)
  | exp (e : E)
  | ret (e : E)
  | retN
  | ite (c : E) (a b : S)
  | for_ (tg : List Nat) (many : Bool) (it : Itk) (src : E) (body : S)
  | whl (c : E) (body : S)
  | pass
  | brk
  | cnt
  | never
/-- what a class has: attributes that are properties (their codes), == -/
structure CI where
  props : List (Nat × Nat)
  eq : Option Nat
  flds : List Nat
/-- a call's end -/
inductive CO where
  | ok (r : RV) (as : List SV)
  | ex (e : Exn) (as : List SV)
  | bad
abbrev Call := Nat → List D → List SV → CO
structure Den where
  v : Env → R RV
  t : Env → R Bool
  l : Env → R (List RV)

/-- the program, to be run: its classes, which parameters are handed by reference, a bound of each while -/
structure PI where
  ci : Nat → CI
  byRef : Nat → Nat → Bool
  turns : Nat
/-- a value's den -/
def vDen (f : Env → R RV) : Den := ⟨f, fun ρ => (f ρ).bind fun r ρ1 => R.opt ((view ρ1 r).bind truth) ρ1, fun _ => .bad⟩
/-- by views -/
def op1 (a : Den) (g : D → Option RV) : Den := vDen fun ρ => (a.v ρ).bind fun r ρ1 => R.opt ((view ρ1 r).bind g) ρ1
def op2 (a b : Den) (g : D → D → Option RV) : Den := vDen fun ρ => (a.v ρ).bind fun r ρ1 => (b.v ρ1).bind fun q ρ2 => R.opt ((view ρ2 r).bind fun x => (view ρ2 q).bind fun y => g x y) ρ2
def opL (a : Den) (g : List D → Option RV) : Den := vDen fun ρ => (a.l ρ).bind fun rs ρ1 => R.opt ((views ρ1 rs).bind g) ρ1
def asBl : RV → Option Bool
  | .d (.bl b) => some b
  | _ => none
/-- a name stored; what was handed in stays -/
def setS (i : Nat) (v : SV) (ρ : Env) : Option Env := match ρ[i]? with
  | some (some (.m false _)) => none
  | some _ => some (ρ.set i (some v))
  | none => none
def setAll : List Nat → List D → Env → Option Env
  | [], [], ρ => some ρ
  | i :: is, d :: ds, ρ => (setS i (.d d) ρ).bind fun ρ1 => setAll is ds ρ1
  | _, _, _ => none
def bindT (tg : List Nat) (many : Bool) (x : D) (ρ : Env) : Option Env := match many with
  | false => setAll tg [x] ρ
  | true => match x with
    | .tup xs => setAll tg xs ρ
    | .tk xs => setAll tg xs ρ
    | _ => none
def wipeE (ρ : Env) : List Nat → Env
  | [] => ρ
  | v :: vs => (wipeE ρ vs).set v none
/-- the names of a comprehension as they were -/
def backE (ρ0 : Env) : List Nat → Env → Env
  | [], ρ => ρ
  | v :: vs, ρ => (backE ρ0 vs ρ).set v ((ρ0[v]?).getD none)
def compRun (own tg : List Nat) (many : Bool) (c e : Den) : List D → Env → List D → R (List D)
  | [], ρ, acc => .ok acc ρ
  | x :: xs, ρ, acc => match bindT tg many x (wipeE ρ own) with
    | none => .bad
    | some ρ1 => match c.t ρ1 with
      | .ok true ρ2 => (match (e.v ρ2).bind toD with
        | .ok d ρ3 => if acc.length < SL then compRun own tg many c e xs ρ3 (acc ++ [d]) else .bad
        | _ => .bad)
      | .ok false ρ2 => compRun own tg many c e xs ρ2 acc
      | _ => .bad
/-- no object in these slots -/
def ownOk (own : List Nat) (ρ : Env) : Bool := own.all fun i => match ρ[i]? with
  | some (some (.m _ _)) => false
  | some _ => true
  | none => false
def compF (own tg : List Nat) (many : Bool) (c e : Den) (xs : List D) (ρ : Env) : R RV :=
  if ownOk own ρ = true then (match compRun own tg many c e xs ρ [] with
    | .ok ys ρ3 => .ok (.n (.l ys)) (backE ρ own ρ3)
    | _ => .bad) else .bad
/-- arguments: by reference, or as data -/
def restA (br : Nat → Bool) : Nat → List RV → Env → R (List RV)
  | _, [], ρ => .ok [] ρ
  | j, r :: rs, ρ => match r, br j with
    | .sl i, true => (restA br (j + 1) rs ρ).bind fun qs ρ1 => .ok (.sl i :: qs) ρ1
    | r, _ => (toD r ρ).bind fun d ρ1 => (restA br (j + 1) rs ρ1).bind fun qs ρ2 => .ok (.d d :: qs) ρ2
/-- the slots that are handed by reference -/
def slotsR : List RV → List Nat
  | [] => []
  | .sl i :: rs => i :: slotsR rs
  | _ :: rs => slotsR rs
def readA (ρ : Env) : List RV → Option (List SV)
  | [] => some []
  | r :: rs => match r with
    | .d v => (readA ρ rs).map (SV.d v :: ·)
    | .sl i => (match ρ[i]? with
      | some (some (.m _ o)) => (readA ρ rs).map (SV.m false o :: ·)
      | some (some (.d v)) => (readA ρ rs).map (SV.d v :: ·)
      | _ => none)
    | .n _ => none
/-- what was handed by reference, as the call left it -/
def takeBack : List RV → List SV → Env → Env
  | r :: rs, a :: as, ρ => match r, a with
    | .sl i, .m _ o => (match ρ[i]? with
      | some (some (.m w _)) => takeBack rs as (ρ.set i (some (.m w o)))
      | _ => takeBack rs as ρ)
    | _, _ => takeBack rs as ρ
  | _, _, ρ => ρ
/-- a call's end, back here -/
def back (qs : List RV) (ρ : Env) : CO → R RV
  | .ok r as => .ok r (takeBack qs as ρ)
  | .ex e as => .ex e (takeBack qs as ρ)
  | .bad => .bad
def calling (P : PI) (call : Call) (f : Nat) (caps : List D) (rs : List RV) (ρ : Env) : R RV :=
  (restA (P.byRef f) 0 rs ρ).bind fun qs ρ1 => if (slotsR qs).Nodup then
    match readA ρ1 qs with
    | some vs => back qs ρ1 (call f caps vs)
    | none => .bad
  else .bad
/-- a new object that is handed alone, by reference -/
def callingN (P : PI) (call : Call) (f : Nat) (rs : List RV) (ρ : Env) : R RV := match rs with
  | [.n o] => if P.byRef f 0 = true then (match call f [] [.m false o] with
    | .ok r _ => .ok r ρ
    | .ex e _ => .ex e ρ
    | .bad => .bad) else calling P call f [] [.n o] ρ
  | rs => calling P call f [] rs ρ
/-- a call of or with a lambda: plain data go in and out, no exception -/
def flatCO : CO → CO
  | .ok r as => if flatRV r = true ∧ as.all flatSV = true then .ok r as else .bad
  | _ => .bad
/-- a new instance: what __init__ left -/
def made (qs : List RV) (ρ : Env) : CO → R RV
  | .ok (.d .non) (.m _ o :: as) => .ok (.n o) (takeBack qs as ρ)
  | .ex e (_ :: as) => .ex e (takeBack qs as ρ)
  | _ => .bad
def newing (P : PI) (call : Call) (C f : Nat) (rs : List RV) (ρ : Env) : R RV :=
  (restA (fun j => P.byRef f (j + 1)) 0 rs ρ).bind fun qs ρ1 => if (slotsR qs).Nodup then
    match readA ρ1 qs with
    | some vs => made qs ρ1 (call f [] (.m false (.i C []) :: vs))
    | none => .bad
  else .bad
def pick {α : Type} (l : List α) : List Nat → Option (List α)
  | [] => some []
  | i :: is => match l[i]?, pick l is with
    | some x, some xs => some (x :: xs)
    | _, _ => none
/-- what a lambda captures -/
def capsOf (ρ : Env) : List Nat → Option (List D)
  | [] => some []
  | i :: is => match ρ[i]?, capsOf ρ is with
    | some (some (.d v)), some vs => some (v :: vs)
    | _, _ => none
def noEx {α : Type} : R α → R α
  | .ok a ρ => .ok a ρ
  | _ => .bad
def strsR : List RV → Option Str
  | [] => some Str.empty
  | .d (.str x) :: r => match strsR r with
    | some y => some (x ++ y)
    | none => none
  | _ => none
def fvF : D → Option RV := fun d => match d with
    | .str x => if x.length ≤ SL then some (.d (.str x)) else none
    | .int i => if i.natAbs.log2 < 1920 then some (.d (.str (toString i))) else none
    | _ => none
def isNil : E → Bool
  | .nil => true
  | _ => false
def partOf (b : Bool) (a : Den) (ρ : Env) : R (Option Int) := match b with
  | true => .ok none ρ
  | false => (a.v ρ).bind fun r ρ1 => match r with
    | .d (.int i) => .ok (some i) ρ1
    | _ => .bad
def den (P : PI) (call : Call) : E → Den
  | .k d => vDen fun ρ => .ok (.d d) ρ
  | .v i => vDen fun ρ => match ρ[i]? with
    | some (some (.d v)) => .ok (.d v) ρ
    | some (some (.m _ _)) => .ok (.sl i) ρ
    | _ => .bad
  | .nil => ⟨fun _ => .bad, fun ρ => .ok true ρ, fun ρ => .ok [] ρ⟩
  | .cons a r => ⟨fun _ => .bad, fun _ => .bad, fun ρ => ((den P call a).v ρ).bind fun x ρ1 => ((den P call r).l ρ1).bind fun xs ρ2 => .ok (x :: xs) ρ2⟩
  | .tup l => vDen fun ρ => ((den P call l).l ρ).bind fun rs ρ1 => (toDs rs ρ1).bind fun ds ρ2 => if ds.length ≤ SL then .ok (.d (.tup ds)) ρ2 else .bad
  | .lst l => vDen fun ρ => ((den P call l).l ρ).bind fun rs ρ1 => (toDs rs ρ1).bind fun ds ρ2 => if ds.length ≤ SL then .ok (.n (.l ds)) ρ2 else .bad
  | .dnew => vDen fun ρ => .ok (.n (.k [])) ρ
  | .dsp k v => vDen fun ρ => ((den P call k).v ρ).bind fun r ρ1 => (toD r ρ1).bind fun d ρ2 => ((den P call v).v ρ2).bind fun q ρ3 => (toD q ρ3).bind fun e ρ4 => match d.key with
    | some x => .ok (.n (.k [(x, e)])) ρ4
    | none => .bad
  | .bin op a b => op2 (den P call a) (den P call b) (bins op)
  | .un op a => op1 (den P call a) (uns op)
  | .cmp op a b => vDen fun ρ => ((den P call a).v ρ).bind fun r ρ1 => ((den P call b).v ρ1).bind fun q ρ2 => match op, view ρ2 r with
    | .Eq, some (.ins C fs) => (match (P.ci C).eq, view ρ2 q with
      | some f, some (.ins C' _) => if C' = C then (calling P call f [] [r, q] ρ2).bind fun r ρ3 => (match asBl r with
        | some k => .ok (.d (.bl k)) ρ3
        | none => .bad) else .bad
      | _, _ => .bad)
    | op, some x => R.opt ((view ρ2 q).bind fun y => (cmps op x y).map fun b => .d (.bl b)) ρ2
    | _, none => .bad
  | .cmp2 op op2 a b c => vDen fun ρ => ((den P call a).v ρ).bind fun r ρ1 => ((den P call b).v ρ1).bind fun q ρ2 =>
    match (view ρ2 r).bind fun x => (view ρ2 q).bind fun y => cmps op x y with
    | some true => ((den P call c).v ρ2).bind fun p ρ3 => R.opt ((view ρ3 q).bind fun x => (view ρ3 p).bind fun y => (cmps op2 x y).map fun b => .d (.bl b)) ρ3
    | some false => .ok (.d (.bl false)) ρ2
    | none => .bad
  | .and a b => { vDen (fun ρ => ((den P call a).v ρ).bind fun r ρ1 => match asBl r with
      | some true => (den P call b).v ρ1
      | some false => .ok (.d (.bl false)) ρ1
      | none => .bad) with
    t := fun ρ => ((den P call a).t ρ).bind fun x ρ1 => match x with
      | true => (den P call b).t ρ1
      | false => .ok false ρ1 }
  | .or a b => { vDen (fun ρ => ((den P call a).v ρ).bind fun r ρ1 => match asBl r with
      | some false => (den P call b).v ρ1
      | some true => .ok (.d (.bl true)) ρ1
      | none => .bad) with
    t := fun ρ => ((den P call a).t ρ).bind fun x ρ1 => match x with
      | false => (den P call b).t ρ1
      | true => .ok true ρ1 }
  | .not a => { vDen (fun ρ => ((den P call a).v ρ).bind fun r ρ1 => match asBl r with
      | some x => .ok (.d (.bl (!x))) ρ1
      | none => .bad) with
    t := fun ρ => ((den P call a).t ρ).bind fun x ρ1 => .ok (!x) ρ1 }
  | .ite c a b => { vDen (fun ρ => ((den P call c).t ρ).bind fun x ρ1 => match x with
      | true => (den P call a).v ρ1
      | false => (den P call b).v ρ1) with
    t := fun ρ => ((den P call c).t ρ).bind fun x ρ1 => match x with
      | true => (den P call a).t ρ1
      | false => (den P call b).t ρ1 }
  | .ix a i => op2 (den P call a) (den P call i) fun x y => (ixs x y).map .d
  | .sl a lo hi => vDen fun ρ => ((den P call a).v ρ).bind fun r ρ1 => (partOf (isNil lo) (den P call lo) ρ1).bind fun i ρ2 => (partOf (isNil hi) (den P call hi) ρ2).bind fun j ρ3 => R.opt ((view ρ3 r).bind fun x => sls x i j) ρ3
  | .call f l => vDen fun ρ => ((den P call l).l ρ).bind fun rs ρ1 => callingN P call f rs ρ1
  | .callK f na nk l ks p => vDen fun ρ => ((den P call l).l ρ).bind fun rs ρ1 => ((den P call ks).l ρ1).bind fun qs ρ2 => if rs.length = na ∧ qs.length = nk then
    match pick (rs ++ qs) p with
    | some xs => calling P call f [] xs ρ2
    | none => .bad
  else .bad
  | .callL f l g cs _ => vDen fun ρ => ((den P call l).l ρ).bind fun rs ρ1 => match capsOf ρ1 cs with
    | some vs => calling P (fun f caps as => flatCO (call f caps as)) f [] (rs ++ [.d (.fn g vs)]) ρ1
    | none => .bad
  | .app i l => vDen fun ρ => match ρ[i]? with
    | some (some (.d (.fn _ _))) => ((den P call l).l ρ).bind fun rs ρ1 => (match ρ1[i]? with
      | some (some (.d (.fn g cs))) => if flatL cs = true then calling P (fun f caps as => if as.all flatSV = true then flatCO (call f caps as) else .bad) g cs rs ρ1 else .bad
      | _ => .bad)
    | _ => .bad
  | .new C f l => vDen fun ρ => ((den P call l).l ρ).bind fun rs ρ1 => newing P call C f rs ρ1
  | .att o f => vDen fun ρ => ((den P call o).v ρ).bind fun r ρ1 => match view ρ1 r with
    | some (.ins C fs) => (match (P.ci C).props.lookup f with
      | some g => noEx (calling P call g [] [r] ρ1)
      | none => if (P.ci C).flds.contains f then R.opt ((fs.lookup f).map .d) ρ1 else .bad)
    | _ => .bad
  | .blt b l => opL (den P call l) (blt b)
  | .mth m o l => vDen fun ρ => ((den P call o).v ρ).bind fun r ρ1 => match view ρ1 r with
    | some (.str x) => ((den P call l).l ρ1).bind fun rs ρ2 => R.opt ((views ρ2 rs).bind fun ys => mth m (.str x) ys) ρ2
    | _ => .bad
  | .mthM m i l => vDen fun ρ => match ρ[i]? with
    | some (some (.m _ (.l _))) => ((den P call l).l ρ).bind fun rs ρ1 => (toDs rs ρ1).bind fun ds ρ2 => (match ρ2[i]? with
      | some (some (.m w o)) => (match mthM m o ds with
        | some (r, o') => .ok r (ρ2.set i (some (.m w o')))
        | none => .bad)
      | _ => .bad)
    | _ => .bad
  | .comp e tg many it src c own => vDen fun ρ => ((((den P call src).l ρ).bind toDs).bind fun ds ρ1 => R.opt (iter it ds) ρ1).bind fun xs ρ2 => compF own tg many (den P call c) (den P call e) xs ρ2
  | .fstr l => vDen fun ρ => (noEx ((den P call l).l ρ)).bind fun rs ρ1 => match strsR rs with
    | some z => if z.length ≤ SL then .ok (.d (.str z)) ρ1 else .bad
    | none => .bad
  | .fv a => op1 (den P call a) fvF

/-- a statement's end -/
inductive O where
  | nx (ρ : Env)
  | rt (r : RV) (ρ : Env)
  | bk (ρ : Env)
  | ct (ρ : Env)
  | ex (e : Exn) (ρ : Env)
  | bad
def R.toO {α : Type} (r : R α) (f : α → Env → O) : O := match r with
  | .ok a ρ => f a ρ
  | .ex e ρ => .ex e ρ
  | .bad => .bad
def O.of : Option Env → O
  | some ρ => .nx ρ
  | none => .bad
def svOf : RV → Option SV
  | .d v => some (.d v)
  | .n o => some (.m true o)
  | .sl _ => none
def forRun (tg : List Nat) (many : Bool) (b : Env → O) : List D → Env → O
  | [], ρ => .nx ρ
  | x :: xs, ρ => match bindT tg many x ρ with
    | none => .bad
    | some ρ1 => match b ρ1 with
      | .nx ρ2 => forRun tg many b xs ρ2
      | .ct ρ2 => forRun tg many b xs ρ2
      | .bk ρ2 => .nx ρ2
      | o => o
def whlRun (c : Env → R Bool) (b : Env → O) : Nat → Env → O
  | 0, _ => .bad
  | n + 1, ρ => match c ρ with
    | .ok true ρ1 => (match b ρ1 with
      | .nx ρ2 => whlRun c b n ρ2
      | .ct ρ2 => whlRun c b n ρ2
      | .bk ρ2 => .nx ρ2
      | o => o)
    | .ok false ρ1 => .nx ρ1
    | .ex e ρ1 => .ex e ρ1
    | .bad => .bad
def putS (i : Nat) (x v : D) (ρ : Env) : Option Env := match ρ[i]? with
  | some (some (.m w o)) => (putM o x v).map fun o' => ρ.set i (some (.m w o'))
  | _ => none
def stT : List (Nat ⊕ (Nat × Den)) → List D → Env → R Unit
  | [], [], ρ => .ok () ρ
  | .inl i :: ts, d :: ds, ρ => match setS i (.d d) ρ with
    | some ρ1 => stT ts ds ρ1
    | none => .bad
  | .inr (i, e) :: ts, d :: ds, ρ => match ρ[i]? with
    | some (some (.m _ _)) => (e.v ρ).bind fun r ρ1 => (toD r ρ1).bind fun x ρ2 => (match putS i x d ρ2 with
      | some ρ3 => stT ts ds ρ3
      | none => .bad)
    | _ => .bad
  | _, _, _ => .bad
def t1Den (P : PI) (call : Call) : T1 → Nat ⊕ (Nat × Den)
  | .s i => .inl i
  | .x i e => .inr (i, den P call e)
/-- what is returned -/
def retF (r : RV) (ρ1 : Env) : O := match r with
    | .d v => .rt (.d v) ρ1
    | .n o => .rt (.n o) ρ1
    | .sl i => match ρ1[i]? with
      | some (some (.m true o)) => .rt (.n o) ρ1
      | some (some (.d v)) => .rt (.d v) ρ1
      | _ => .bad
def parAll : List Nat → List RV → Env → Option Env
  | [], [], ρ => some ρ
  | i :: is, r :: rs, ρ => (svOf r).bind fun v => (setS i v ρ).bind fun ρ1 => parAll is rs ρ1
  | _, _, _ => none
def putF1 (f : Nat) (v : D) : List (Nat × D) → List (Nat × D)
  | [] => [(f, v)]
  | (g, x) :: r => if g = f then (g, v) :: r else (g, x) :: putF1 f v r
def denS (P : PI) (call : Call) : S → Env → O
  | .nil, ρ => .nx ρ
  | .cons s r, ρ => match denS P call s ρ with
    | .nx ρ1 => denS P call r ρ1
    | o => o
  | .asg i e, ρ => ((den P call e).v ρ).toO fun r ρ1 => O.of ((svOf r).bind fun v => setS i v ρ1)
  | .asgT ts e, ρ => ((den P call e).v ρ).toO fun r ρ1 => (match view ρ1 r with
      | some (.tup xs) => if xs.length = (ts.map (t1Den P call)).length then (stT (ts.map (t1Den P call)) xs ρ1).toO fun _ ρ2 => .nx ρ2 else .bad
      | some (.tk xs) => if xs.length = (ts.map (t1Den P call)).length then (stT (ts.map (t1Den P call)) xs ρ1).toO fun _ ρ2 => .nx ρ2 else .bad
      | _ => .bad)
  | .par is es, ρ => ((den P call es).l ρ).toO fun rs ρ1 => O.of (parAll is rs ρ1)
  | .put i x e, ρ => ((den P call e).v ρ).toO fun r ρ1 => (toD r ρ1).toO fun v ρ2 => match ρ2[i]? with
      | some (some (.m _ _)) => ((den P call x).v ρ2).toO fun q ρ3 => (toD q ρ3).toO fun y ρ4 => O.of (putS i y v ρ4)
      | _ => .bad
  | .fset i f e, ρ => ((den P call e).v ρ).toO fun r ρ1 => (toD r ρ1).toO fun d ρ2 => match ρ2[i]? with
    | some (some (.m w (.i C fs))) => if fs.length < 1000 ∧ (P.ci C).flds.contains f = true then .nx (ρ2.set i (some (.m w (.i C (putF1 f d fs))))) else .bad
    | _ => .bad
  | .exp e, ρ => ((den P call e).v ρ).toO fun _ ρ1 => .nx ρ1
  | .ret e, ρ => ((den P call e).v ρ).toO fun r ρ1 => retF r ρ1
  | .retN, ρ => .rt (.d .non) ρ
  | .ite c a b, ρ => ((den P call c).t ρ).toO fun x ρ1 => match x with
    | true => denS P call a ρ1
    | false => denS P call b ρ1
  | .for_ tg many it src body, ρ => ((((den P call src).l ρ).bind toDs).bind fun ds ρ1 => R.opt (iter it ds) ρ1).toO fun xs ρ1 => forRun tg many (denS P call body) xs ρ1
  | .whl c body, ρ => whlRun (den P call c).t (denS P call body) P.turns ρ
  | .pass, ρ => .nx ρ
  | .brk, ρ => .bk ρ
  | .cnt, ρ => .ct ρ
  | .never, _ => .bad
/-- a def, a lambda -/
structure Code where
  np : Nat
  nc : Nat
  ns : Nat
  body : S
def outS : Option SV → SV
  | some (.m w o) => .m w o
  | _ => .d .non
/-- what the parameters hold at the end -/
def outs : Nat → Env → List SV
  | 0, _ => []
  | n + 1, [] => .d .non :: outs n []
  | n + 1, a :: r => outS a :: outs n r
def leave (np : Nat) : O → CO
  | .nx ρ => .ok (.d .non) (outs np ρ)
  | .rt r ρ => .ok r (outs np ρ)
  | .ex e ρ => .ex e (outs np ρ)
  | _ => .bad
def entry (c : Code) (caps : List D) (args : List SV) : Env := args.map some ++ (caps.map (fun d => some (.d d)) ++ List.replicate (c.ns - c.np - c.nc) none)
def runC (P : PI) (codes : Nat → Option Code) : Nat → Call
  | 0 => fun _ _ _ => .bad
  | n + 1 => fun f caps args => match codes f with
    | none => .bad
    | some c => if args.length = c.np ∧ caps.length = c.nc then leave c.np (denS P (runC P codes n) c.body (entry c caps args)) else .bad
end Fl
set_option Elab.async false
set_option linter.all false
set_option maxRecDepth 100000
set_option maxHeartbeats 4000000
/-! Layer F, part 2: how values lie in the heap. -/
namespace Fl
open PySem PySem.Spec PyProof.Rows L2 NdefX LamX

/-- what is fixed for a program -/
structure SC where
  P : Program
  w : World
  K : PySem.W.Frag
  mg : Str → Option Value
  base : Heap
  clsA : Nat → Addr
  isCls : Nat → Bool
  fldN : Nat → Str
  fnA : Nat → Addr
  isDef : Nat → Bool
  lam : Nat → Option LI
  T : List NTab
  excV : Nat → Value

/-- any object -/
abbrev anyO : HO := .ext fun _ => True
/-- the very object o stands at a -/
abbrev pin (o : Obj) : HO := .frz o anyO
/-- laid to rest -/
def Fz (H : Hp) (a : Addr) (u : HO) : Prop := ∃ o, H a = some (.frz o u)
def FzL (K : PySem.W.Frag) (H : Hp) (a : Addr) (vs : List V) : Prop := Fz H a (.lst vs)
theorem FzL.sq {K : PySem.W.Frag} {H : Hp} {a : Addr} {vs : List V} (h : FzL K H a vs) : SqL K H a vs := by
  obtain ⟨o, h⟩ := h
  exact .inl (.inr ⟨o, h⟩)
/-- what no step changes -/
def per : HO → Bool
  | .tup _ => true
  | .frz _ _ => true
  | .ext _ => true
  | _ => false
def Pers (H H' : Hp) : Prop := ∀ a o, H a = some o → per o = true → H' a = some o
theorem Pers.refl (H : Hp) : Pers H H := fun _ _ h _ => h
theorem Pers.trans {H H1 H2 : Hp} (a : Pers H H1) (b : Pers H1 H2) : Pers H H2 := fun c o h p => b c o (a c o h p) p
theorem Pers.of {H H' : Hp} (e : ∀ b o, H b = some o → H' b = some o) : Pers H H' := fun b o h _ => e b o h
theorem Pers.sqT {K : PySem.W.Frag} {H H' : Hp} {a : Addr} {vs : List V} (p : Pers H H') (h : SqT K H a vs) : SqT K H' a vs := by
  rcases h with (h | ⟨o, h⟩) | h
  · exact .inl (.inl (p _ _ h rfl))
  · exact .inl (.inr ⟨o, p _ _ h rfl⟩)
  · exact .inr h
theorem Pers.fz {H H' : Hp} {a : Addr} {u : HO} (p : Pers H H') (h : Fz H a u) : Fz H' a u := by
  obtain ⟨o, h⟩ := h
  exact ⟨o, p _ _ h rfl⟩
theorem Pers.fzL {K : PySem.W.Frag} {H H' : Hp} {a : Addr} {vs : List V} (p : Pers H H') (h : FzL K H a vs) : FzL K H' a vs := by
  exact p.fz h
/-- a written dict with text keys -/
def KDc (c : SC) (a : Addr) (ks : List (Str × V)) : Prop :=
  ∃ es n, KDict c.K c.w a es n ∧ (∀ z v, dGet ks z = some v → ∃ u, PySem.W.nsIn c.K a z = some (some u) ∧ RelV v u) ∧ ∀ z, dGet ks z = none → PySem.W.nsIn c.K a z = some none
/-- the captured cells, pinned -/
structure CellP (H : Hp) (cl : List (Str × Addr)) (fr : List Str) (vs : List V) : Prop where
  len : vs.length = fr.length
  all : ∀ y a, cl.lookup y = some a → ∃ o v, H a = some (pin o) ∧ o.data = .cell v
  inj : ∀ x y a, cl.lookup x = some a → cl.lookup y = some a → x = y
  has : ∀ (i : Nat) (y : Str) (v : V), fr[i]? = some y → vs[i]? = some v → ∃ a o u, cl.lookup y = some a ∧ H a = some (pin o) ∧ o.data = .cell (some u) ∧ RelV v u
  sub : ∀ y a, cl.lookup y = some a → y ∈ fr
theorem CellP.pers {H H' : Hp} {cl : List (Str × Addr)} {fr : List Str} {vs : List V} (p : Pers H H') (h : CellP H cl fr vs) : CellP H' cl fr vs := by
  refine ⟨h.len, fun y a e => ?_, h.inj, fun i y v e1 e2 => ?_, h.sub⟩
  · obtain ⟨o, v, e1, e2⟩ := h.all y a e
    exact ⟨o, v, p _ _ e1 rfl, e2⟩
  · obtain ⟨a, o, u, x1, x2, x3⟩ := h.has i y v e1 e2
    exact ⟨a, o, u, x1, p _ _ x2 rfl, x3⟩
/-- a written tuple -/
def KTup (K : PySem.W.Frag) (a : Addr) (vs : List V) : Prop := ∃ (o : Obj) (its : Array Value) (n : Nat), K.lookup a = some o ∧ o.cls = .type "tuple" ∧ o.data = .seq its n ∧ its.size ≤ sizeLine ∧ Vals vs its.toList
theorem KTup.sq {K : PySem.W.Frag} {a : Addr} {vs : List V} (h : KTup K a vs) (H : Hp) : SqT K H a vs := .inr h
mutual
/-- v stands for d -/
inductive Rp (c : SC) (H : Hp) : V → D → Prop
  | non : Rp c H .non .non
  | bl (b : Bool) : Rp c H (.bl b) (.bl b)
  | int (i : Int) : Rp c H (.int i) (.int i)
  | str (x : Str) : Rp c H (.str x) (.str x)
  | tup {a : Addr} {vs : List V} {ds : List D} : H a = some (.tup vs) → RpL c H vs ds → Rp c H (.ref a) (.tup ds)
  | tk {a : Addr} {vs : List V} {ds : List D} : KTup c.K a vs → RpL c H vs ds → Rp c H (.ref a) (.tk ds)
  | lst {a : Addr} {vs : List V} {ds : List D} : FzL c.K H a vs → RpL c H vs ds → Rp c H (.ref a) (.lst ds)
  | dk {a : Addr} {kv : List (Key × V)} {vs : List V} {ks : List (Key × D)} : Fz H a (.dK kv) → kv.map (·.1) = ks.map (·.1) → kv.map (·.2) = vs → RpL c H vs (ks.map (·.2)) → Rp c H (.ref a) (.dk ks)
  | ck {a : Addr} {kv : List (Str × V)} {vs : List V} {ks : List (Str × D)} : KDc c a kv → kv.map (·.1) = ks.map (·.1) → kv.map (·.2) = vs → RpL c H vs (ks.map (·.2)) → Rp c H (.ref a) (.ck ks)
  | dt {a : Addr} {kv : List (List Key × V)} {vs : List V} {ks : List (List Key × D)} : Fz H a (.dT kv) → kv.map (·.1) = ks.map (·.1) → kv.map (·.2) = vs → RpL c H vs (ks.map (·.2)) → Rp c H (.ref a) (.dt ks)
  | ins {a dx : Addr} {C : Nat} {fv : List (Str × V)} {vs : List V} {fs : List (Nat × D)} : c.isCls C = true → Fz H a (.ins (c.clsA C) dx fv) → fv.map (·.1) = fs.map (fun p => c.fldN p.1) → fv.map (·.2) = vs → RpL c H vs (fs.map (·.2)) → Rp c H (.ref a) (.ins C fs)
  | fnG {k : Nat} : c.isDef k = true → Rp c H (.ref (c.fnA k)) (.fn k [])
  | fnL {k : Nat} {L : LI} {f c' : Addr} {cl : List (Str × Addr)} {pm ctv : Value} {vs : List V} {caps : List D} : c.lam k = some L → H f = some (pin (PySem.W.kla_obj "<lambda>" L.qual L.params L.body L.scope cl pm c' ctv)) → H c' = some (CodeO c' L.qual) →
      CellP H cl L.fr vs → RpL c H vs caps → Rp c H (.ref f) (.fn k caps)
inductive RpL (c : SC) (H : Hp) : List V → List D → Prop
  | nil : RpL c H [] []
  | cons {v : V} {vs : List V} {d : D} {ds : List D} : Rp c H v d → RpL c H vs ds → RpL c H (v :: vs) (d :: ds)
end
mutual
theorem Rp.pers {c : SC} {H H' : Hp} (p : Pers H H') : ∀ {v : V} {d : D}, Rp c H v d → Rp c H' v d
  | _, _, .non => .non
  | _, _, .bl b => .bl b
  | _, _, .int i => .int i
  | _, _, .str x => .str x
  | _, _, .tup h t => .tup (p _ _ h rfl) (RpL.pers p t)
  | _, _, .tk h t => .tk h (RpL.pers p t)
  | _, _, .lst h t => .lst (p.fzL h) (RpL.pers p t)
  | _, _, .dk h e1 e2 t => .dk (p.fz h) e1 e2 (RpL.pers p t)
  | _, _, .ck h e1 e2 t => .ck h e1 e2 (RpL.pers p t)
  | _, _, .dt h e1 e2 t => .dt (p.fz h) e1 e2 (RpL.pers p t)
  | _, _, .ins hC h e1 e2 t => .ins hC (p.fz h) e1 e2 (RpL.pers p t)
  | _, _, .fnG h => .fnG h
  | _, _, .fnL h1 h2 h3 h4 t => .fnL h1 (p _ _ h2 rfl) (p _ _ h3 rfl) (h4.pers p) (RpL.pers p t)
theorem RpL.pers {c : SC} {H H' : Hp} (p : Pers H H') : ∀ {vs : List V} {ds : List D}, RpL c H vs ds → RpL c H' vs ds
  | _, _, .nil => .nil
  | _, _, .cons h t => .cons (Rp.pers p h) (RpL.pers p t)
end
section
variable {c : SC} {H : Hp}
theorem RpL.length : ∀ {vs : List V} {ds : List D}, RpL c H vs ds → vs.length = ds.length
  | _, _, .nil => rfl
  | _, _, .cons _ t => by rw [List.length_cons, List.length_cons, RpL.length t]
theorem RpL.get : ∀ {vs : List V} {ds : List D} {i : Nat} {d : D}, RpL c H vs ds → ds[i]? = some d → ∃ v, vs[i]? = some v ∧ Rp c H v d
  | _, _, _, _, .nil, e => by simp at e
  | _, _, 0, _, .cons h t, e => by simp at e; subst e; exact ⟨_, rfl, h⟩
  | _, _, i + 1, d, .cons _ t, e => by
    obtain ⟨v, h1, h2⟩ := RpL.get (i := i) (d := d) t (by simpa using e)
    exact ⟨v, by simpa using h1, h2⟩
theorem RpL.get' : ∀ {vs : List V} {ds : List D} {i : Nat} {v : V}, RpL c H vs ds → vs[i]? = some v → ∃ d, ds[i]? = some d ∧ Rp c H v d
  | _, _, _, _, .nil, e => by simp at e
  | _, _, 0, _, .cons h t, e => by simp at e; subst e; exact ⟨_, rfl, h⟩
  | _, _, i + 1, v, .cons _ t, e => by
    obtain ⟨d, h1, h2⟩ := RpL.get' (i := i) (v := v) t (by simpa using e)
    exact ⟨d, by simpa using h1, h2⟩
theorem RpL.append : ∀ {vs ws : List V} {ds es : List D}, RpL c H vs ds → RpL c H ws es → RpL c H (vs ++ ws) (ds ++ es)
  | _, _, _, _, .nil, s => s
  | _, _, _, _, .cons h t, s => .cons h (RpL.append t s)
theorem RpL.take : ∀ {vs : List V} {ds : List D} (n : Nat), RpL c H vs ds → RpL c H (vs.take n) (ds.take n)
  | _, _, 0, _ => .nil
  | _, _, _ + 1, .nil => .nil
  | _, _, n + 1, .cons h t => .cons h (RpL.take n t)
theorem RpL.drop : ∀ {vs : List V} {ds : List D} (n : Nat), RpL c H vs ds → RpL c H (vs.drop n) (ds.drop n)
  | _, _, 0, r => r
  | _, _, _ + 1, .nil => .nil
  | _, _, n + 1, .cons _ t => RpL.drop n t
theorem RpL.set {v : V} {d : D} (r : Rp c H v d) : ∀ {vs : List V} {ds : List D} (i : Nat), RpL c H vs ds → RpL c H (vs.set i v) (ds.set i d)
  | _, _, _, .nil => .nil
  | _, _, 0, .cons _ t => .cons r t
  | _, _, i + 1, .cons q t => .cons q (RpL.set r i t)
theorem RpL.eraseIdx : ∀ {vs : List V} {ds : List D} (i : Nat), RpL c H vs ds → RpL c H (vs.eraseIdx i) (ds.eraseIdx i)
  | _, _, _, .nil => .nil
  | _, _, 0, .cons _ t => t
  | _, _, i + 1, .cons q t => .cons q (RpL.eraseIdx i t)
theorem RpL.dropLast {vs : List V} {ds : List D} (h : RpL c H vs ds) : RpL c H vs.dropLast ds.dropLast := by
  rw [List.dropLast_eq_take, List.dropLast_eq_take, h.length]
  exact h.take _
theorem RpL.nil_iff {vs : List V} {ds : List D} (h : RpL c H vs ds) : vs.isEmpty = ds.isEmpty := by
  cases h <;> rfl
theorem RpL.strs : ∀ (xs : List Str), RpL c H (xs.map V.str) (xs.map D.str)
  | [] => .nil
  | x :: xs => .cons (.str x) (RpL.strs xs)
theorem RpL.keys : ∀ {ks : List Key}, RpL c H (ks.map kV) (ks.map kD)
  | [] => .nil
  | .inl i :: ks => .cons (.int i) RpL.keys
  | .inr x :: ks => .cons (.str x) RpL.keys
end

/-- an object that changes -/
def Mo (c : SC) (H : Hp) (a : Addr) : MO → Prop
  | .l xs => ∃ vs, H a = some (.lst vs) ∧ RpL c H vs xs
  | .k ks => ∃ kv, H a = some (.dK kv) ∧ kv.map (·.1) = ks.map (·.1) ∧ RpL c H (kv.map (·.2)) (ks.map (·.2))
  | .t ks => ∃ kv, H a = some (.dT kv) ∧ kv.map (·.1) = ks.map (·.1) ∧ RpL c H (kv.map (·.2)) (ks.map (·.2))
  | .i C fs => c.isCls C = true ∧ ∃ dx fv, H a = some (.ins (c.clsA C) dx fv) ∧ fv.map (·.1) = fs.map (fun p => c.fldN p.1) ∧ RpL c H (fv.map (·.2)) (fs.map (·.2))
theorem Mo.mut {c : SC} {H : Hp} {a : Addr} {o : MO} (h : Mo c H a o) : ∃ u, H a = some u ∧ Mut (some u) ∧ per u = false ∧ ∀ ps, u ≠ .tbl ps := by
  cases o with
  | l xs => obtain ⟨vs, e, _⟩ := h; exact ⟨_, e, trivial, rfl, fun _ z => nomatch z⟩
  | k ks => obtain ⟨vs, e, _⟩ := h; exact ⟨_, e, trivial, rfl, fun _ z => nomatch z⟩
  | t ks => obtain ⟨vs, e, _⟩ := h; exact ⟨_, e, trivial, rfl, fun _ z => nomatch z⟩
  | i C fs => obtain ⟨_, dx, fv, e, _⟩ := h; exact ⟨_, e, trivial, rfl, fun _ z => nomatch z⟩
/-- it stays while its own entry and what never changes stay -/
theorem Mo.stay {c : SC} {H H' : Hp} {a : Addr} {o : MO} (h : Mo c H a o) (e : H' a = H a) (p : Pers H H') : Mo c H' a o := by
  cases o with
  | l xs => obtain ⟨vs, x, r⟩ := h; exact ⟨vs, e.trans x, r.pers p⟩
  | k ks => obtain ⟨vs, x, q, r⟩ := h; exact ⟨vs, e.trans x, q, r.pers p⟩
  | t ks => obtain ⟨vs, x, q, r⟩ := h; exact ⟨vs, e.trans x, q, r.pers p⟩
  | i C fs => obtain ⟨hC, dx, fv, x, q, r⟩ := h; exact ⟨hC, dx, fv, e.trans x, q, r.pers p⟩
/-- laid to rest -/
theorem Mo.rest {c : SC} {H : Hp} {a : Addr} {o : MO} (h : Mo c H a o) {u : HO} (e : H a = some u) (od : Obj) : Rp c (upd H a (.frz od u)) (.ref a) (fz o) := by
  have hp : per u = false := by
    obtain ⟨u', e', _, q, _⟩ := h.mut
    rw [e] at e'
    cases e'
    exact q
  have p : Pers H (upd H a (.frz od u)) := fun b o' hb hp' => by
    rw [upd_ne (fun z => by rw [z, e] at hb; cases hb; rw [hp] at hp'; cases hp')]
    exact hb
  cases o with
  | l xs => obtain ⟨vs, x, r⟩ := h; rw [x] at e; cases e; exact .lst ⟨od, upd_same⟩ (r.pers p)
  | k ks => obtain ⟨vs, x, q, r⟩ := h; rw [x] at e; cases e; exact .dk ⟨od, upd_same⟩ q rfl (r.pers p)
  | t ks => obtain ⟨vs, x, q, r⟩ := h; rw [x] at e; cases e; exact .dt ⟨od, upd_same⟩ q rfl (r.pers p)
  | i C fs => obtain ⟨hC, dx, fv, x, q, r⟩ := h; rw [x] at e; cases e; exact .ins hC ⟨od, upd_same⟩ q rfl (r.pers p)
/-- a slot -/
def Sv (c : SC) (H : Hp) (x : V) : SV → Prop
  | .d v => Rp c H x v
  | .m _ o => ∃ a, x = .ref a ∧ Mo c H a o

/-- a frame's ground: the heap at its entry, the objects handed in by reference, by slots -/
structure Bs where
  H0 : Hp
  ps : List (Nat × Addr)
/-- the environment ρ stands in σ, H -/
structure ER (c : SC) (b : Bs) (σ : L2.St) (ρ : Env) (H : Hp) : Prop where
  len : σ.length = ρ.length
  slot : ∀ (i : Nat) (sv : SV), ρ[i]? = some (some sv) → ∃ x, σ[i]? = some (some x) ∧ Sv c H x sv
  apart : ∀ (i j : Nat) (w w' : Bool) (o o' : MO) (a : Addr), ρ[i]? = some (some (.m w o)) → ρ[j]? = some (some (.m w' o')) → σ[i]? = some (some (.ref a)) → σ[j]? = some (some (.ref a)) → i = j
  own : ∀ (i : Nat) (o : MO) (a : Addr), ρ[i]? = some (some (.m true o)) → σ[i]? = some (some (.ref a)) → b.H0 a = none
  par : ∀ (i : Nat) (o : MO) (a : Addr), ρ[i]? = some (some (.m false o)) → σ[i]? = some (some (.ref a)) → (i, a) ∈ b.ps
  parB : ∀ (i : Nat) (a : Addr), (i, a) ∈ b.ps → (∃ o, ρ[i]? = some (some (.m false o))) ∧ σ[i]? = some (some (.ref a))
  fr : ∀ a o, b.H0 a = some o → (∀ i, (i, a) ∉ b.ps) → (∀ ps, o ≠ .tbl ps) → H a = some o
  frT : ∀ a ps, b.H0 a = some (.tbl ps) → ∃ more, H a = some (.tbl (ps ++ more))
  tabs : TabsN c.T H
/-- the slot i holds an object that changes, at a -/
def MutAt (σ : L2.St) (ρ : Env) (a : Addr) : Prop := ∃ (i : Nat) (w : Bool) (o : MO), ρ[i]? = some (some (SV.m w o)) ∧ σ[i]? = some (some (.ref a))
/-- what a step leaves -/
structure Stp (σ : L2.St) (ρ : Env) (H : Hp) (ρ' : Env) (H' : Hp) : Prop where
  fr : ∀ a o, H a = some o → ¬ MutAt σ ρ a → (∀ ps, o ≠ .tbl ps) → H' a = some o
  sh : ∀ (i : Nat) (w : Bool) (o : MO), ρ'[i]? = some (some (.m w o)) → ∃ o', ρ[i]? = some (some (.m w o'))
  tr : ∀ a, H' a = none → H a = none
section
variable {c : SC} {b : Bs} {σ : L2.St} {ρ ρ' ρ1 ρ2 : Env} {H H' H1 H2 : Hp}
theorem ER.mutAt (r : ER c b σ ρ H) {a : Addr} (m : MutAt σ ρ a) : ∃ u, H a = some u ∧ Mut (some u) ∧ per u = false ∧ ∀ ps, u ≠ .tbl ps := by
  obtain ⟨i, w, o, e1, e2⟩ := m
  obtain ⟨x, e3, q⟩ := r.slot i _ e1
  rw [e2] at e3
  cases e3
  obtain ⟨a', ea, q⟩ := q
  cases ea
  exact q.mut
theorem ER.notMut (r : ER c b σ ρ H) {a : Addr} {o : HO} (e : H a = some o) (p : per o = true) : ¬ MutAt σ ρ a := fun m => by
  obtain ⟨u, e', _, q, _⟩ := r.mutAt m
  rw [e] at e'
  cases e'
  rw [p] at q
  cases q
theorem ER.freshMut (r : ER c b σ ρ H) {a : Addr} (e : H a = none) : ¬ MutAt σ ρ a := fun m => by
  obtain ⟨u, e', _⟩ := r.mutAt m
  rw [e] at e'
  cases e'
theorem Stp.refl (σ : L2.St) (ρ : Env) (H : Hp) : Stp σ ρ H ρ H := ⟨fun _ _ h _ _ => h, fun _ _ o h => ⟨o, h⟩, fun _ h => h⟩
theorem Stp.mut (s : Stp σ ρ H ρ' H') {a : Addr} (m : MutAt σ ρ' a) : MutAt σ ρ a := by
  obtain ⟨i, w, o, e1, e2⟩ := m
  obtain ⟨o', e3⟩ := s.sh i w o e1
  exact ⟨i, w, o', e3, e2⟩
theorem Stp.trans (s : Stp σ ρ H ρ1 H1) (t : Stp σ ρ1 H1 ρ2 H2) : Stp σ ρ H ρ2 H2 :=
  ⟨fun a o h n q => t.fr a o (s.fr a o h n q) (fun m => n (s.mut m)) q, fun i w o h => let ⟨o1, h1⟩ := t.sh i w o h; s.sh i w o1 h1, fun a h => s.tr a (t.tr a h)⟩
theorem per_tbl {o : HO} (p : per o = true) : ∀ ps, o ≠ .tbl ps := fun ps z => by rw [z] at p; cases p
theorem Stp.pers (s : Stp σ ρ H ρ' H') (r : ER c b σ ρ H) : Pers H H' := fun a o h p => s.fr a o h (r.notMut h p) (per_tbl p)
/-- the heap has grown alone -/
theorem Stp.grow (e : ∀ b o, H b = some o → H' b = some o) : Stp σ ρ H ρ H' := ⟨fun a o h _ _ => e a o h, fun _ _ o h => ⟨o, h⟩, fun a h => by
  cases q : H a with
  | none => rfl
  | some o => rw [e a o q] at h; cases h⟩
theorem ER.grow (r : ER c b σ ρ H) (e : ∀ b o, H b = some o → H' b = some o) : ER c b σ ρ H' := by
  have p : Pers H H' := .of e
  refine ⟨r.len, fun i sv h => ?_, r.apart, r.own, r.par, r.parB, fun a o h n q => e a o (r.fr a o h n q), fun a ps h => ?_, r.tabs.ext e⟩
  · obtain ⟨x, e1, q⟩ := r.slot i sv h
    refine ⟨x, e1, ?_⟩
    cases sv with
    | d v => exact Rp.pers p q
    | m w o =>
      obtain ⟨a, ea, q⟩ := q
      obtain ⟨u, eu, _⟩ := q.mut
      exact ⟨a, ea, q.stay ((e a u eu).trans eu.symm) p⟩
  · obtain ⟨more, h⟩ := r.frT a ps h
    exact ⟨more, e a _ h⟩
/-- an address that is new here was new at the entry -/
theorem ER.fresh0 (r : ER c b σ ρ H) {a : Addr} (e : H a = none) : b.H0 a = none := by
  cases q : b.H0 a with
  | none => rfl
  | some o =>
    exfalso
    by_cases hp : ∃ i, (i, a) ∈ b.ps
    · obtain ⟨i, hi⟩ := hp
      obtain ⟨⟨mo, e1⟩, e2⟩ := r.parB i a hi
      exact r.freshMut e ⟨i, false, mo, e1, e2⟩
    · have hp' : ∀ i, (i, a) ∉ b.ps := fun i hi => hp ⟨i, hi⟩
      by_cases ht : ∃ ps, o = .tbl ps
      · obtain ⟨ps, ht⟩ := ht
        rw [ht] at q
        obtain ⟨more, z⟩ := r.frT a ps q
        rw [e] at z
        cases z
      · have z := r.fr a o q hp' fun ps h => ht ⟨ps, h⟩
        rw [e] at z
        cases z
end
end Fl
set_option Elab.async false
set_option linter.all false
set_option maxRecDepth 100000
set_option maxHeartbeats 4000000
/-! Layer F, part 3: readings. -/
namespace Fl
open PySem PySem.Spec PyProof.Rows L2 NdefX LamX

/-- what an expression gave; Hs: the heap ahead of it -/
def Rv (c : SC) (σ : L2.St) (Hs H : Hp) (x : V) : RV → Prop
  | .d v => Rp c H x v
  | .n o => ∃ a, x = .ref a ∧ Mo c H a o ∧ Hs a = none
  | .sl i => σ[i]? = some (some x)
inductive RvL (c : SC) (σ : L2.St) (Hs H : Hp) : List V → List RV → Prop
  | nil : RvL c σ Hs H [] []
  | cons {x : V} {r : RV} {xs : List V} {rs : List RV} : Rv c σ Hs H x r → RvL c σ Hs H xs rs → (∀ o, r = .n o → ∀ (j : Nat) o', rs[j]? = some (.n o') → xs[j]? ≠ some x) → RvL c σ Hs H (x :: xs) (r :: rs)
theorem RvL.length {c : SC} {σ : L2.St} {Hs H : Hp} : ∀ {xs : List V} {rs : List RV}, RvL c σ Hs H xs rs → xs.length = rs.length
  | _, _, .nil => rfl
  | _, _, .cons _ t _ => by rw [List.length_cons, List.length_cons, t.length]
theorem RvL.get {c : SC} {σ : L2.St} {Hs H : Hp} : ∀ {xs : List V} {rs : List RV} {j : Nat} {r : RV}, RvL c σ Hs H xs rs → rs[j]? = some r → ∃ x, xs[j]? = some x ∧ Rv c σ Hs H x r
  | _, _, _, _, .nil, e => by simp at e
  | _, _, 0, _, .cons h _ _, e => by simp at e; subst e; exact ⟨_, rfl, h⟩
  | _, _, j + 1, r, .cons _ t _, e => by
    obtain ⟨x, h1, h2⟩ := RvL.get (j := j) (r := r) t (by simpa using e)
    exact ⟨x, by simpa using h1, h2⟩
/-- an exception -/
def Ex (c : SC) (H : Hp) (cls : Value) (d : Option Addr) (e : Exn) : Prop := cls = c.excV e.cls ∧
  ((e.fs = [] ∧ d = none) ∨ ∃ dx fv, d = some dx ∧ H dx = some (.xd fv) ∧ fv.map (·.1) = e.fs.map (fun p => c.fldN p.1) ∧ RpL c H (fv.map (·.2)) (e.fs.map (·.2)))
def Post {α β : Type} (c : SC) (b : Bs) (W : WX) (σ : L2.St) (rep : Hp → Hp → β → α → Prop) (ρ : Env) (H : Hp) (o : R α) (Q : β → Hp → Prop) : Prop := match o with
  | .ok a ρ' => ∀ x H', ER c b σ ρ' H' → Stp σ ρ H ρ' H' → rep H H' x a → Q x H'
  | .ex e ρ' => ∀ cls d H', ER c b σ ρ' H' → Stp σ ρ H ρ' H' → Ex c H' cls d e → W cls d σ H'
  | .bad => False
section
variable {c : SC} {b : Bs} {W : WX} {σ : L2.St} {α β : Type} {rep : Hp → Hp → β → α → Prop} {ρ ρ1 : Env} {H H1 : Hp} {o : R α} {Q Q' : β → Hp → Prop}
theorem Post.mono (h : Post c b W σ rep ρ H o Q) (q : ∀ x H', Q x H' → Q' x H') : Post c b W σ rep ρ H o Q' := by
  cases o with
  | ok a ρ' => exact fun x H' r s p => q x H' (h x H' r s p)
  | ex e ρ' => exact h
  | bad => exact h
/-- begun further ahead -/
theorem Post.back {rep1 : Hp → Hp → β → α → Prop} (s : Stp σ ρ H ρ1 H1) (hr : ∀ H' x a, rep1 H1 H' x a → rep H H' x a) (h : Post c b W σ rep ρ H o Q) : Post c b W σ rep1 ρ1 H1 o Q := by
  cases o with
  | ok a ρ' => exact fun x H' r t p => h x H' r (s.trans t) (hr H' x a p)
  | ex e ρ' => exact fun cls d H' r t p => h cls d H' r (s.trans t) p
  | bad => exact h
end
theorem Rv.back {c : SC} {σ : L2.St} {ρ ρ1 : Env} {H H1 H' : Hp} (s : Stp σ ρ H ρ1 H1) {x : V} {r : RV} (h : Rv c σ H1 H' x r) : Rv c σ H H' x r := by
  cases r with
  | d v => exact h
  | n o => obtain ⟨a, e, m, n⟩ := h; exact ⟨a, e, m, s.tr a n⟩
  | sl i => exact h
theorem RvL.back {c : SC} {σ : L2.St} {ρ ρ1 : Env} {H H1 H' : Hp} (s : Stp σ ρ H ρ1 H1) : ∀ {xs : List V} {rs : List RV}, RvL c σ H1 H' xs rs → RvL c σ H H' xs rs
  | _, _, .nil => .nil
  | _, _, .cons h t d => .cons (h.back s) (RvL.back s t) d
/-- it stays through a step that begins where it stood -/
theorem Rv.step {c : SC} {b : Bs} {σ : L2.St} {ρs ρ ρ' : Env} {Hs H H' : Hp} (rs : ER c b σ ρs Hs) (r : ER c b σ ρ H) (s0 : Stp σ ρs Hs ρ H) (s : Stp σ ρ H ρ' H') {x : V} {q : RV} (h : Rv c σ Hs H x q) : Rv c σ Hs H' x q := by
  cases q with
  | d v => exact Rp.pers (s.pers r) h
  | n o =>
    obtain ⟨a, e, m, n⟩ := h
    refine ⟨a, e, ?_, n⟩
    obtain ⟨u, eu, _, _, nt⟩ := m.mut
    exact m.stay ((s.fr a u eu (fun z => rs.freshMut n (s0.mut z)) nt).trans eu.symm) (s.pers r)
  | sl i => exact h

/-- the readings -/
def tF (c : SC) (b : Bs) (W : WX) (f : Env → R RV) : TE := fun σ H Q => ∃ ρ, ER c b σ ρ H ∧ Post c b W σ (Rv c σ) ρ H (f ρ) Q
def tFD (c : SC) (b : Bs) (W : WX) (f : Env → R D) : TE := fun σ H Q => ∃ ρ, ER c b σ ρ H ∧ Post c b W σ (fun _ H' x d => Rp c H' x d) ρ H (f ρ) Q
def tFB (c : SC) (b : Bs) (W : WX) (f : Env → R Bool) : TT := fun σ H Q => ∃ ρ, ER c b σ ρ H ∧ Post c b W σ (fun _ _ (x a : Bool) => x = a) ρ H (f ρ) Q
def tFL (c : SC) (b : Bs) (W : WX) (f : Env → R (List RV)) : TA := fun σ H Q => ∃ ρ, ER c b σ ρ H ∧ Post c b W σ (RvL c σ) ρ H (f ρ) Q
def tFDs (c : SC) (b : Bs) (W : WX) (f : Env → R (List D)) : TA := fun σ H Q => ∃ ρ, ER c b σ ρ H ∧ Post c b W σ (fun _ H' x d => RpL c H' x d) ρ H (f ρ) Q

/-! ### weakening, steps of the abstract heap alone -/
section
variable {X : Cx}
theorem PE.imp {e : Expr} {t t' : TE} (h : PE X e t) (i : ∀ σ H Q, t' σ H Q → t σ H Q) : PE X e t' := ⟨fun pins s σ H Q I q => h.run pins s σ H Q I (i σ H Q q)⟩
theorem PT.imp {e : Expr} {t t' : TT} (h : PT X e t) (i : ∀ σ H Q, t' σ H Q → t σ H Q) : PT X e t' := ⟨fun pins s σ H Q I q => h.run pins s σ H Q I (i σ H Q q)⟩
theorem PA.imp {e : List Expr} {t t' : TA} (h : PA X e t) (i : ∀ σ H Q, t' σ H Q → t σ H Q) : PA X e t' := ⟨fun pos pins s σ H Q I q => h.run pos pins s σ H Q I (i σ H Q q)⟩
theorem PS.imp {e : Stmt} {t t' : TS} (h : PS X e t) (i : ∀ D σ H, t' D σ H → t D σ H) : PS X e t' := ⟨fun pins s σ H D I q => h.run pins s σ H D I (i D σ H q)⟩
theorem PSs.imp {e : List Stmt} {t t' : TS} (h : PSs X e t) (i : ∀ D σ H, t' D σ H → t D σ H) : PSs X e t' := ⟨fun pins s σ H D I q => h.run pins s σ H D I (i D σ H q)⟩
/-- behind it the abstract heap may be told anew -/
theorem PE.ghost {e : Expr} {t t' : TE} (h : PE X e t) (i : ∀ σ H Q, t' σ H Q → t σ H fun v H1 => ∀ pins s, Inv X pins σ H1 s → ∃ H2, Inv X pins σ H2 s ∧ Q v H2) : PE X e t' :=
  ⟨fun pins s σ H Q I q => thn (h.run pins s σ H _ I (i σ H Q q)) fun u s1 ⟨v, H1, I1, r, q1⟩ => let ⟨H2, I2, q2⟩ := q1 pins s1 I1; ⟨v, H2, I2, r, q2⟩⟩
theorem PA.ghost {e : List Expr} {t t' : TA} (h : PA X e t) (i : ∀ σ H Q, t' σ H Q → t σ H fun v H1 => ∀ pins s, Inv X pins σ H1 s → ∃ H2, Inv X pins σ H2 s ∧ Q v H2) : PA X e t' :=
  ⟨fun pos pins s σ H Q I q => thn (h.run pos pins s σ H _ I (i σ H Q q)) fun u s1 ⟨v, H1, I1, r, q1⟩ => let ⟨H2, I2, q2⟩ := q1 pins s1 I1; ⟨v, H2, I2, r, q2⟩⟩
end
theorem tabN_keep {H H' : Hp} {P : Addr} {nm : Nat → Nat → Str} (t : TabN H P nm) (e : ∀ b o, H b = some o → ((∃ ps, o = .tbl ps) ∨ per o = true) → H' b = some o) : TabN H' P nm := by
  obtain ⟨ps, h1, h2, h3⟩ := t
  refine ⟨ps, e _ _ h1 (.inl ⟨ps, rfl⟩), h2, fun pos cv hc => ?_⟩
  obtain ⟨c, e1, e2⟩ := h3 pos cv hc
  exact ⟨c, e1, e _ _ e2 (.inr rfl)⟩

/-! ### laying to rest -/
section
variable {X : Cx} {pins : List (Addr × Obj)} {s : Shared} {c : SC} {b : Bs} {σ : L2.St} {ρs ρ ρ' : Env} {Hs H : Hp}
/-- one object that no slot but perhaps i holds -/
theorem rest_at (I : Inv X pins σ H s) (rs : ER c b σ ρs Hs) (r : ER c b σ ρ H) (st : Stp σ ρs Hs ρ H) {a : Addr} {o : MO} (m : Mo c H a o) (h0 : b.H0 a = none)
    (hρ : (ρ' = ρ ∧ ¬ MutAt σ ρ a ∧ ¬ MutAt σ ρs a ∧ Hs a = none) ∨ ∃ i, ρ' = ρ.set i (some (.d (fz o))) ∧ ρ[i]? = some (some (.m true o)) ∧ σ[i]? = some (some (.ref a))) :
    ∃ H', Inv X pins σ H' s ∧ ER c b σ ρ' H' ∧ Stp σ ρs Hs ρ' H' ∧ Rp c H' (.ref a) (fz o) ∧ (∀ b o, H b = some o → b ≠ a → H' b = some o) ∧ Pers H H' := by
  obtain ⟨u, eu, mu, pu, nt⟩ := m.mut
  obtain ⟨od, I'⟩ := I.lock eu mu
  have P : Pers H (upd H a (.frz od u)) := fun b o' hb hp' => by
    rw [upd_ne (fun z => by rw [z, eu] at hb; cases hb; rw [pu] at hp'; cases hp')]
    exact hb
  have rr := m.rest eu od
  have oth : ∀ b o, H b = some o → b ≠ a → upd H a (.frz od u) b = some o := fun b o e n => by rw [upd_ne n]; exact e
  have tabs : TabsN c.T (upd H a (.frz od u)) := fun p hp => tabN_keep (r.tabs p hp) fun b' o' e q => by
    refine oth b' o' e fun z => ?_
    rw [z, eu] at e
    cases e
    rcases q with ⟨ps, q⟩ | q
    · exact nt ps q
    · rw [pu] at q; cases q
  have slotD : ∀ {x : V} {d : D}, Rp c H x d → Rp c (upd H a (.frz od u)) x d := fun h => Rp.pers P h
  refine ⟨_, I', ?_, ?_, rr, oth, P⟩
  · have fr : ∀ a' o', b.H0 a' = some o' → (∀ i, (i, a') ∉ b.ps) → (∀ ps, o' ≠ .tbl ps) → upd H a (.frz od u) a' = some o' := fun a' o' e n q => oth a' o' (r.fr a' o' e n q) (fun z => by rw [z, h0] at e; cases e)
    have frT : ∀ a' ps, b.H0 a' = some (.tbl ps) → ∃ more, upd H a (.frz od u) a' = some (.tbl (ps ++ more)) := fun a' ps e => by
      obtain ⟨more, z⟩ := r.frT a' ps e
      exact ⟨more, oth a' _ z (fun z' => by rw [z', h0] at e; cases e)⟩
    rcases hρ with ⟨rfl, n, _, _⟩ | ⟨i, rfl, ei, si⟩
    · refine ⟨r.len, fun i sv h => ?_, r.apart, r.own, r.par, r.parB, fr, frT, tabs⟩
      obtain ⟨x, e1, q⟩ := r.slot i sv h
      refine ⟨x, e1, ?_⟩
      cases sv with
      | d v => exact slotD q
      | m w o' =>
        obtain ⟨a', ea, q⟩ := q
        refine ⟨a', ea, q.stay ?_ P⟩
        exact upd_ne fun z => n ⟨i, w, o', h, by rw [e1, ea, z]⟩
    · have hi : i < ρ.length := (List.getElem?_eq_some_iff.mp ei).1
      have at_ : ∀ (j : Nat) (w : Bool) (o' : MO), (ρ.set i (some (.d (fz o))))[j]? = some (some (.m w o')) → j ≠ i ∧ ρ[j]? = some (some (.m w o')) := fun j w o' h => by
        by_cases hj : i = j
        · subst hj
          rw [List.getElem?_set_self hi] at h
          cases h
        · rw [List.getElem?_set_ne hj] at h
          exact ⟨fun z => hj z.symm, h⟩
      refine ⟨by rw [List.length_set]; exact r.len, fun j sv h => ?_, fun j k w w' o1 o2 a' h1 h2 s1 s2 => r.apart j k w w' o1 o2 a' (at_ _ _ _ h1).2 (at_ _ _ _ h2).2 s1 s2, fun j o1 a' h1 s1 => r.own j o1 a' (at_ _ _ _ h1).2 s1, fun j o1 a' h1 s1 => r.par j o1 a' (at_ _ _ _ h1).2 s1,
        fun j a' hj => ?_, fr, frT, tabs⟩
      · by_cases hj : i = j
        · subst hj
          rw [List.getElem?_set_self hi] at h
          cases h
          exact ⟨_, si, rr⟩
        · rw [List.getElem?_set_ne hj] at h
          obtain ⟨x, e1, q⟩ := r.slot j sv h
          refine ⟨x, e1, ?_⟩
          cases sv with
          | d v => exact slotD q
          | m w o' =>
            obtain ⟨a', ea, q⟩ := q
            refine ⟨a', ea, q.stay ?_ P⟩
            exact upd_ne fun z => hj (r.apart i j true w o o' a ei h si (by rw [e1, ea, z]))
      · obtain ⟨⟨o1, e1⟩, e2⟩ := r.parB j a' hj
        refine ⟨⟨o1, ?_⟩, e2⟩
        rw [List.getElem?_set_ne fun z => by rw [z, e1] at ei; cases ei]
        exact e1
  · refine ⟨fun a' o' e n q => ?_, fun i' w' o1 h => ?_, fun a' h => ?_⟩
    · refine oth a' o' (st.fr a' o' e n q) fun z => ?_
      rcases hρ with ⟨_, _, _, hn⟩ | ⟨i, _, ei, si⟩
      · rw [z, hn] at e; cases e
      · exact n (st.mut ⟨i, true, o, ei, by rw [si, z]⟩)
    · rcases hρ with ⟨rfl, _⟩ | ⟨i, rfl, ei, si⟩
      · exact st.sh i' w' o1 h
      · have hi : i < ρ.length := (List.getElem?_eq_some_iff.mp ei).1
        by_cases hj : i = i'
        · subst hj
          rw [List.getElem?_set_self hi] at h
          cases h
        · rw [List.getElem?_set_ne hj] at h
          exact st.sh i' w' o1 h
    · refine st.tr a' ?_
      cases q : H a' with
      | none => rfl
      | some o' =>
        exfalso
        by_cases z : a' = a
        · rw [z, upd_same] at h; cases h
        · rw [oth a' o' q z] at h; cases h
theorem ghostD (I : Inv X pins σ H s) (rs : ER c b σ ρs Hs) (r : ER c b σ ρ H) (st : Stp σ ρs Hs ρ H) {x : V} {q : RV} (h : Rv c σ Hs H x q) {d : D} (e : toD q ρ = .ok d ρ') :
    ∃ H', Inv X pins σ H' s ∧ ER c b σ ρ' H' ∧ Stp σ ρs Hs ρ' H' ∧ Rp c H' x d ∧ Pers H H' ∧
      (H' = H ∨ (∀ b o, H b = some o → x ≠ .ref b → H' b = some o) ∧ ((∃ o, q = .n o) ∨ ∃ (i : Nat) (o : MO), σ[i]? = some (some x) ∧ ρ[i]? = some (some (SV.m true o)))) := by
  cases q with
  | d v =>
    have e : R.ok v ρ = .ok d ρ' := e
    cases e
    exact ⟨H, I, r, st, h, .refl H, .inl rfl⟩
  | n o =>
    have e : R.ok (fz o) ρ = .ok d ρ' := e
    cases e
    obtain ⟨a, rfl, m, n⟩ := h
    obtain ⟨H', a1, a2, a3, a4, a5, a6⟩ := rest_at (ρ' := ρ) I rs r st m (rs.fresh0 n) (.inl ⟨rfl, fun z => rs.freshMut n (st.mut z), rs.freshMut n, n⟩)
    exact ⟨H', a1, a2, a3, a4, a6, .inr ⟨fun b o hb hn => a5 b o hb fun z => hn (by rw [z]), .inl ⟨o, rfl⟩⟩⟩
  | sl i =>
    have h : σ[i]? = some (some x) := h
    unfold toD at e
    dsimp only at e
    split at e
    · rename_i o ei
      cases e
      obtain ⟨x', e1, a, ea, m⟩ := r.slot i _ ei
      rw [h] at e1
      cases e1
      subst ea
      obtain ⟨H', a1, a2, a3, a4, a5, a6⟩ := rest_at (ρ' := ρ.set i (some (.d (fz o)))) I rs r st m (r.own i o a ei h) (.inr ⟨i, rfl, ei, h⟩)
      exact ⟨H', a1, a2, a3, a4, a6, .inr ⟨fun b o hb hn => a5 b o hb fun z => hn (by rw [z]), .inr ⟨i, o, h, ei⟩⟩⟩
    · rename_i v ei
      cases e
      obtain ⟨x', e1, q⟩ := r.slot i _ ei
      rw [h] at e1
      cases e1
      exact ⟨H, I, r, st, q, .refl H, .inl rfl⟩
    · cases e
theorem toD_noex {q : RV} {ρ ρ' : Env} {e : Exn} : toD q ρ ≠ .ex e ρ' := by
  intro h
  cases q with
  | d v => cases h
  | n o => cases h
  | sl i =>
    unfold toD at h
    dsimp only at h
    split at h <;> cases h

theorem toDs_noex : ∀ {qs : List RV} {ρ ρ' : Env} {e : Exn}, toDs qs ρ ≠ .ex e ρ'
  | [], _, _, _, h => by cases h
  | q :: qs, ρ, ρ', e, h => by
    unfold toDs at h
    cases e1 : toD q ρ with
    | ok d ρ1 =>
      rw [e1] at h
      have h : (toDs qs ρ1).bind (fun ds ρ2 => R.ok (d :: ds) ρ2) = .ex e ρ' := h
      cases e2 : toDs qs ρ1 with
      | ok ds ρ2 => rw [e2] at h; cases h
      | ex e' ρ2 => exact toDs_noex e2
      | bad => rw [e2] at h; cases h
    | ex e' ρ1 => exact toD_noex e1
    | bad => rw [e1] at h; cases h
theorem toDs_cons {q : RV} {qs : List RV} {ρ ρ' : Env} {ds : List D} (h : toDs (q :: qs) ρ = .ok ds ρ') : ∃ d ρ1 ds', toD q ρ = .ok d ρ1 ∧ toDs qs ρ1 = .ok ds' ρ' ∧ ds = d :: ds' := by
  unfold toDs at h
  cases e1 : toD q ρ with
  | ok d ρ1 =>
    rw [e1] at h
    have h : (toDs qs ρ1).bind (fun ds ρ2 => R.ok (d :: ds) ρ2) = .ok ds ρ' := h
    cases e2 : toDs qs ρ1 with
    | ok ds' ρ2 =>
      rw [e2] at h
      have h : R.ok (d :: ds') ρ2 = .ok ds ρ' := h
      cases h
      exact ⟨d, ρ1, ds', rfl, e2, rfl⟩
    | ex e' ρ2 => rw [e2] at h; cases h
    | bad => rw [e2] at h; cases h
  | ex e' ρ1 => rw [e1] at h; cases h
  | bad => rw [e1] at h; cases h
theorem Rv.apart (rs : ER c b σ ρs Hs) (r : ER c b σ ρ H) (st : Stp σ ρs Hs ρ H) {i : Nat} {w : Bool} {o o' : MO} {x : V} (e : ρ[i]? = some (some (.m w o))) (e2 : σ[i]? = some (some x)) (h : Rv c σ Hs H x (.n o')) : False := by
  obtain ⟨a, ea, m, n⟩ := h
  subst ea
  exact rs.freshMut n (st.mut ⟨i, w, o, e, e2⟩)
theorem ghostDs (rs : ER c b σ ρs Hs) : ∀ {xs : List V} {qs : List RV} {ρ : Env} {H : Hp} {ds : List D}, Inv X pins σ H s → ER c b σ ρ H → Stp σ ρs Hs ρ H → RvL c σ Hs H xs qs → toDs qs ρ = .ok ds ρ' →
    ∃ H', Inv X pins σ H' s ∧ ER c b σ ρ' H' ∧ Stp σ ρs Hs ρ' H' ∧ RpL c H' xs ds ∧ Pers H H'
  | _, _, ρ, H, ds, I, r, st, .nil, e => by
    have e : R.ok [] ρ = .ok ds ρ' := e
    cases e
    exact ⟨H, I, r, st, .nil, .refl H⟩
  | _, _, ρ, H, ds, I, r, st, .cons (x := x) (r := q) (xs := xs) (rs := qs) h t dj, e => by
    obtain ⟨d, ρ1, ds', e1, e2, rfl⟩ := toDs_cons e
    obtain ⟨H1, I1, r1, st1, p1, P1, kk⟩ := ghostD I rs r st h e1
    have t1 : RvL c σ Hs H1 xs qs := by
      have go : ∀ {ys : List V} {ps : List RV}, RvL c σ Hs H ys ps → (∀ o, q = .n o → ∀ (j : Nat) o', ps[j]? = some (.n o') → ys[j]? ≠ some x) → RvL c σ Hs H1 ys ps := by
        intro ys ps hh
        induction hh with
        | nil => intro _; exact .nil
        | cons h' t' d' ih =>
          rename_i y p ys' ps'
          intro dd
          refine .cons ?_ (ih fun o eo j o' ej => dd o eo (j + 1) o' (by simpa using ej)) d'
          cases p with
          | d v => exact Rp.pers P1 h'
          | sl i => exact h'
          | n o' =>
            obtain ⟨a, ea, m, n⟩ := h'
            obtain ⟨u, eu, _⟩ := m.mut
            refine ⟨a, ea, m.stay ?_ P1, n⟩
            rcases kk with kk | ⟨k1, kk⟩
            · rw [kk]
            · refine (k1 a u eu fun z => ?_).trans eu.symm
              rcases kk with ⟨o, eo⟩ | ⟨i, o, e3, e4⟩
              · exact dd o eo 0 o' rfl (by rw [z, ea]; rfl)
              · exact Rv.apart (c := c) (b := b) (o' := o') rs r st e4 e3 ⟨a, z, m, n⟩
      exact go t dj
    obtain ⟨H2, I2, r2, st2, p2, P2⟩ := ghostDs rs I1 r1 st1 t1 e2
    exact ⟨H2, I2, r2, st2, .cons (Rp.pers P2 p1) p2, P1.trans P2⟩
end
end Fl
set_option Elab.async false
set_option linter.all false
set_option maxRecDepth 100000
set_option maxHeartbeats 4000000
/-! Layer F, part 4: operators and built-ins by what their arguments read as. -/
namespace Fl
open PySem PySem.Spec PyProof.Rows L2 NdefX LamX

/-- x reads as d: laid to rest, or an object as it stands -/
inductive Vw (c : SC) (H : Hp) (x : V) (d : D) : Prop
  | r (h : Rp c H x d) : Vw c H x d
  | m {a : Addr} {o : MO} (e : x = .ref a) (h : Mo c H a o) (q : d = fz o) : Vw c H x d
inductive VwL (c : SC) (H : Hp) : List V → List D → Prop
  | nil : VwL c H [] []
  | cons {x : V} {d : D} {xs : List V} {ds : List D} : Vw c H x d → VwL c H xs ds → VwL c H (x :: xs) (d :: ds)
/-- a result z in a heap H' that has grown out of H -/
def Res (c : SC) (H : Hp) (z : V) (r : RV) (H' : Hp) : Prop := (∀ a o, H a = some o → H' a = some o) ∧ match r with
  | .d v => Rp c H' z v
  | .n o => ∃ a, z = .ref a ∧ Mo c H' a o ∧ H a = none
  | .sl _ => False
section
variable {c : SC} {b : Bs} {σ : L2.St} {ρs ρ ρ' : Env} {Hs H H' : Hp}
theorem view_ok (r : ER c b σ ρ H) {x : V} {q : RV} (h : Rv c σ Hs H x q) {d : D} (e : view ρ q = some d) : Vw c H x d := by
  cases q with
  | d v =>
    have e : some v = some d := e
    cases e
    exact .r h
  | n o =>
    have e : some (fz o) = some d := e
    cases e
    obtain ⟨a, ea, m, _⟩ := h
    exact .m ea m rfl
  | sl i =>
    have h : σ[i]? = some (some x) := h
    unfold view at e
    dsimp only at e
    split at e
    · rename_i w o ei
      cases e
      obtain ⟨x', e1, a, ea, m⟩ := r.slot i _ ei
      rw [h] at e1
      cases e1
      exact .m ea m rfl
    · rename_i v ei
      cases e
      obtain ⟨x', e1, q⟩ := r.slot i _ ei
      rw [h] at e1
      cases e1
      exact .r q
    · cases e
theorem views_ok (r : ER c b σ ρ H) : ∀ {xs : List V} {qs : List RV} {ds : List D}, RvL c σ Hs H xs qs → views ρ qs = some ds → VwL c H xs ds
  | _, _, ds, .nil, e => by
    have e : some [] = some ds := e
    cases e
    exact .nil
  | _, _, ds, .cons (r := q) (rs := qs) h t _, e => by
    unfold views at e
    cases e1 : view ρ q with
    | none => rw [e1] at e; cases e
    | some d =>
      rw [e1] at e
      cases e2 : views ρ qs with
      | none => rw [e2] at e; cases e
      | some ds' =>
        rw [e2] at e
        have e : some (d :: ds') = some ds := e
        cases e
        exact .cons (view_ok r h e1) (views_ok r t e2)
theorem Res.post {W : WX} {z : V} {q : RV} {Q : VK} (st : Stp σ ρs Hs ρ H) (r : ER c b σ ρ H) (h : Post c b W σ (Rv c σ) ρs Hs (.ok q ρ) Q) (x : Res c H z q H') : Q z H' := by
  obtain ⟨g, x⟩ := x
  refine h z H' (r.grow g) (st.trans (Stp.grow g)) ?_
  cases q with
  | d v => exact x
  | n o => obtain ⟨a, e, m, n⟩ := x; exact ⟨a, e, m, st.tr a n⟩
  | sl i => exact x.elim
theorem Res.same {z : V} {v : D} (h : Rp c H z v) : Res c H z (.d v) H := ⟨fun _ _ h => h, h⟩
theorem Res.upd {p : Addr} {o : HO} {q : RV} (hp : H p = none) (h : match q with
    | .d v => Rp c (upd H p o) (.ref p) v
    | .n m => Mo c (upd H p o) p m
    | .sl _ => False) : Res c H (.ref p) q (L2.upd H p o) := by
  refine ⟨fun a u e => by rw [upd_ne (ne_of_none e hp)]; exact e, ?_⟩
  cases q with
  | d v => exact h
  | n m => exact ⟨p, rfl, h, hp⟩
  | sl i => exact h
/-- what has grown -/
theorem grown {p : Addr} {o : HO} (hp : H p = none) : Pers H (upd H p o) := .of fun a u e => by rw [upd_ne (ne_of_none e hp)]; exact e
end
/-! ### as plain data -/
section
variable {c : SC} {H : Hp}
mutual
theorem Rp.dp : ∀ {v : V} {d : D} {p : PyData}, Rp c H v d → d.py = some p → Dp c.K H v p
  | _, _, p, .non, e => by cases e; exact .non
  | _, _, p, .bl b, e => by cases e; exact .bl b
  | _, _, p, .int i, e => by cases e; exact .int i
  | _, _, p, .str x, e => by cases e; exact .str x
  | _, _, p, .tup (ds := ds) h t, e => by
    unfold D.py at e
    cases e1 : pyL ds with
    | none => rw [e1] at e; cases e
    | some ps => rw [e1] at e; cases e; exact .tup (SqT.of h) (RpL.dp t e1)
  | _, _, p, .tk (ds := ds) h t, e => by
    unfold D.py at e
    cases e1 : pyL ds with
    | none => rw [e1] at e; cases e
    | some ps => rw [e1] at e; cases e; exact .tup (h.sq _) (RpL.dp t e1)
  | _, _, p, .lst (ds := ds) h t, e => by
    unfold D.py at e
    cases e1 : pyL ds with
    | none => rw [e1] at e; cases e
    | some ps => rw [e1] at e; cases e; exact .lst h.sq (RpL.dp t e1)
  | _, _, _, .dk .., e => by unfold D.py at e; cases e
  | _, _, _, .ck .., e => by unfold D.py at e; cases e
  | _, _, _, .dt .., e => by unfold D.py at e; cases e
  | _, _, _, .ins .., e => by unfold D.py at e; cases e
  | _, _, _, .fnG .., e => by unfold D.py at e; cases e
  | _, _, _, .fnL .., e => by unfold D.py at e; cases e
theorem RpL.dp : ∀ {vs : List V} {ds : List D} {ps : List PyData}, RpL c H vs ds → pyL ds = some ps → DpAll c.K H vs ps
  | _, _, ps, .nil, e => by unfold pyL at e; cases e; exact .nil
  | _, _, ps, .cons (d := d) (ds := ds) h t, e => by
    unfold pyL at e
    cases e1 : d.py with
    | none => rw [e1] at e; cases e
    | some p =>
      rw [e1] at e
      cases e2 : pyL ds with
      | none => rw [e2] at e; cases e
      | some qs => rw [e2] at e; cases e; exact .cons (Rp.dp h e1) (RpL.dp t e2)
end
theorem Vw.dp {x : V} {d : D} {p : PyData} (h : Vw c H x d) (e : d.py = some p) : Dp c.K H x p := by
  rcases h with h | @⟨a, o, ex, h, q⟩
  · exact h.dp e
  · subst ex q
    cases o with
    | l xs =>
      obtain ⟨vs, hv, t⟩ := h
      have e : D.py (.lst xs) = some p := e
      unfold D.py at e
      cases e1 : pyL xs with
      | none => rw [e1] at e; cases e
      | some ps => rw [e1] at e; cases e; exact .lst (SqL.of hv) (t.dp e1)
    | k ks => have e : D.py (.dk ks) = some p := e; unfold D.py at e; cases e
    | t ks => have e : D.py (.dt ks) = some p := e; unfold D.py at e; cases e
    | i C fs => have e : D.py (.ins C fs) = some p := e; unfold D.py at e; cases e
mutual
theorem py_plain : ∀ (d : D) {p : PyData}, d.py = some p → p.plain = true
  | .non, _, e => by cases e; rfl
  | .bl _, _, e => by cases e; rfl
  | .int _, _, e => by cases e; rfl
  | .str _, _, e => by cases e; rfl
  | .tup ds, p, e => by
    unfold D.py at e
    cases e1 : pyL ds with
    | none => rw [e1] at e; cases e
    | some ps => rw [e1] at e; cases e; exact pyL_plain ds e1
  | .tk ds, p, e => by
    unfold D.py at e
    cases e1 : pyL ds with
    | none => rw [e1] at e; cases e
    | some ps => rw [e1] at e; cases e; exact pyL_plain ds e1
  | .lst ds, p, e => by
    unfold D.py at e
    cases e1 : pyL ds with
    | none => rw [e1] at e; cases e
    | some ps => rw [e1] at e; cases e; exact pyL_plain ds e1
  | .dk _, _, e => by unfold D.py at e; cases e
  | .ck _, _, e => by unfold D.py at e; cases e
  | .dt _, _, e => by unfold D.py at e; cases e
  | .ins _ _, _, e => by unfold D.py at e; cases e
  | .fn _ _, _, e => by unfold D.py at e; cases e
theorem pyL_plain : ∀ (ds : List D) {ps : List PyData}, pyL ds = some ps → PyData.plainAll ps = true
  | [], _, e => by unfold pyL at e; cases e; rfl
  | d :: ds, ps, e => by
    unfold pyL at e
    cases e1 : d.py with
    | none => rw [e1] at e; cases e
    | some p =>
      rw [e1] at e
      cases e2 : pyL ds with
      | none => rw [e2] at e; cases e
      | some qs =>
        rw [e2] at e
        cases e
        show (p.plain && PyData.plainAll qs) = true
        rw [py_plain d e1, pyL_plain ds e2]
        rfl
end
theorem Vw.int {x : V} {i : Int} (h : Vw c H x (.int i)) : x = .int i := by
  rcases h with h | @⟨a, o, ex, h, q⟩
  · cases h; rfl
  · cases o <;> cases q
theorem Vw.str {x : V} {i : Str} (h : Vw c H x (.str i)) : x = .str i := by
  rcases h with h | @⟨a, o, ex, h, q⟩
  · cases h; rfl
  · cases o <;> cases q
theorem Vw.bl {x : V} {i : Bool} (h : Vw c H x (.bl i)) : x = .bl i := by
  rcases h with h | @⟨a, o, ex, h, q⟩
  · cases h; rfl
  · cases o <;> cases q
theorem Vw.non {x : V} (h : Vw c H x .non) : x = .non := by
  rcases h with h | @⟨a, o, ex, h, q⟩
  · cases h; rfl
  · cases o <;> cases q
theorem Vw.lst {x : V} {ds : List D} (h : Vw c H x (.lst ds)) : ∃ a vs, x = .ref a ∧ Rd H a (.lst vs) ∧ RpL c H vs ds := by
  rcases h with h | @⟨a, o, ex, h, q⟩
  · cases h with
    | lst h t => exact ⟨_, _, rfl, .inr h, t⟩
  · cases o with
    | l xs => cases q; obtain ⟨vs, hv, t⟩ := h; exact ⟨a, vs, ex, .inl hv, t⟩
    | _ => cases q
theorem Vw.tup {x : V} {ds : List D} (h : Vw c H x (.tup ds)) : ∃ a vs, x = .ref a ∧ H a = some (.tup vs) ∧ RpL c H vs ds := by
  rcases h with h | @⟨a, o, ex, h, q⟩
  · cases h with
    | tup h t => exact ⟨_, _, rfl, h, t⟩
  · cases o <;> cases q
theorem Vw.tk {x : V} {ds : List D} (h : Vw c H x (.tk ds)) : ∃ a vs, x = .ref a ∧ KTup c.K a vs ∧ RpL c H vs ds := by
  rcases h with h | @⟨a, o, ex, h, q⟩
  · cases h with
    | tk h t => exact ⟨_, _, rfl, h, t⟩
  · cases o <;> cases q
theorem Vw.seq {x : V} {d : D} {ds : List D} (h : Vw c H x d) (e : seqOf d = some ds) : ∃ a vs, x = .ref a ∧ (Rd H a (.lst vs) ∨ SqT c.K H a vs) ∧ RpL c H vs ds := by
  cases d with
  | lst xs => cases e; obtain ⟨a, vs, rfl, h1, h2⟩ := h.lst; exact ⟨a, vs, rfl, .inl h1, h2⟩
  | tup xs => cases e; obtain ⟨a, vs, rfl, h1, h2⟩ := h.tup; exact ⟨a, vs, rfl, .inr (SqT.of h1), h2⟩
  | tk xs => cases e; obtain ⟨a, vs, rfl, h1, h2⟩ := h.tk; exact ⟨a, vs, rfl, .inr (h1.sq _), h2⟩
  | _ => cases e
end
/-! ### what is told of a context -/
structure XC (c : SC) (N : List Str) (sc : Scope) (n : Nat) (X : Cx) : Prop where
  prog : X.prog = c.P
  w : X.w = c.w
  K : X.K = c.K
  mg : X.mg = c.mg
  base : X.base = c.base
  nm : X.N = N
  nd : N.Nodup
  sc : X.env.scope = sc
  calm : X.calm = true
  room : Room n X.A
  hp : PassesOwn (model X.prog X.w) X.A X.env X.xe
/-- two values read, one made -/
def OpS (c : SC) (X : Cx) (f : Value → Value → Sem Value) (g : D → D → Option RV) : Prop :=
  OpR X f fun x y H Q => ∃ dx dy r, Vw c H x dx ∧ Vw c H y dy ∧ g dx dy = some r ∧ ∀ z H', Res c H z r H' → Q z H'
def UnS (c : SC) (X : Cx) (f : Value → Sem Value) (g : D → Option RV) : Prop :=
  UnR X f fun x H Q => ∃ dx r, Vw c H x dx ∧ g dx = some r ∧ ∀ z H', Res c H z r H' → Q z H'
def CallS (c : SC) (X : Cx) (f : Value) (g : List D → Option RV) : Prop :=
  CallR X f fun xs H Q => ∃ ds r, VwL c H xs ds ∧ g ds = some r ∧ ∀ z H', Res c H z r H' → Q z H'
section
variable {X : Cx} {c : SC} {N : List Str} {sc : Scope} {n : Nat} {pins : List (Addr × Obj)} {σ : L2.St} {H : Hp} {s : Shared}
/-- an OpR that the data choose -/
theorem OpS.of {f : Value → Value → Sem Value} {g : D → D → Option RV}
    (h : ∀ dx dy r, g dx dy = some r → ∃ rr : R2, OpR X f rr ∧ ∀ x y H Q, Vw c H x dx → Vw c H y dy → (∀ z H', Res c H z r H' → Q z H') → rr x y H Q) : OpS c X f g := by
  intro pins s σ H x y v u Q I rx ry q
  obtain ⟨dx, dy, r, vx, vy, e, q⟩ := q
  obtain ⟨rr, ho, hh⟩ := h dx dy r e
  exact ho pins s σ H x y v u Q I rx ry (hh x y H Q vx vy q)
theorem Vw.reads (xc : XC c N sc n X) (I : Inv X pins σ H s) {x : V} {u : Value} {d : D} {p : PyData} (h : Vw c H x d) (e : d.py = some p) (r : RelV x u) : ∃ as, Reads s.heap u p as :=
  Dp.reads I p x u (by rw [xc.K]; exact h.dp e) r

theorem Rd.lst (I : Inv X pins σ H s) {a : Addr} {vs : List V} (h : Rd H a (.lst vs)) : vs.length ≤ sizeLine ∧ ∃ (its : List Value) (n : Nat), Vals vs its ∧ vs.length = its.length ∧ s.heap.get? a = some { cls := .type "list", data := .seq its.toArray n } := by
  obtain ⟨z, its, n, r, e⟩ := h.ok I.hok
  exact ⟨z, its, n, r, r.length, e⟩
def rCatF : R2 := fun x y H Q => ∃ l b xs zs, x = .ref l ∧ y = .ref b ∧ Rd H l (.lst xs) ∧ Rd H b (.lst zs) ∧ xs.length + zs.length ≤ sizeLine ∧ ∀ p, H p = none → Q (.ref p) (upd H p (.lst (xs ++ zs)))
theorem op_catF : OpR X (binaryOp .Add) rCatF := by
  intro pins s σ H x y v u Q I rx ry h
  obtain ⟨l, b, xs, zs, rfl, rfl, hH, hB, hz, q⟩ := h
  cases rx
  cases ry
  obtain ⟨z, its, n, r, hl, e⟩ := Rd.lst I hH
  obtain ⟨z2, its2, n2, r2, hl2, e2⟩ := Rd.lst I hB
  refine PySem.P.add_list e e2 ?_ (by rw [List.size_toArray, List.size_toArray]; omega)
  have ea : its.toArray ++ its2.toArray = (its ++ its2).toArray := by simp
  rw [ea]
  exact ⟨.ref _, _, I.lnew (t' := s.toks) (r.append r2) (by rw [List.length_append]; omega), rfl, q _ I.fresh⟩
theorem sl16 : SL = sizeLine := by rw [sizeLine_eq]
theorem ops_bin (xc : XC c N sc n X) (op : Operator) : OpS c X (binaryOp op) (bins op) := OpS.of fun dx dy r e => by
  unfold bins at e
  split at e
  · cases e; exact ⟨_, op_add, fun x y H Q vx vy q => ⟨_, _, vx.int, vy.int, q _ _ (Res.same (.int _))⟩⟩
  · split at e
    · cases e
      rename_i hz
      exact ⟨_, op_add_str, fun x y H Q vx vy q => ⟨_, _, vx.str, vy.str, by rw [← sl16]; exact hz, q _ _ (Res.same (.str _))⟩⟩
    · cases e
  · split at e
    · cases e
      rename_i hz
      refine ⟨_, op_catF, fun x y H Q vx vy q => ?_⟩
      obtain ⟨a, vs, rfl, ha, ta⟩ := vx.lst
      obtain ⟨b, ws, rfl, hb, tb⟩ := vy.lst
      refine ⟨_, _, _, _, rfl, rfl, ha, hb, by rw [ta.length, tb.length, ← sl16]; exact hz, fun p hp => q _ _ (Res.upd hp ?_)⟩
      exact ⟨_, upd_same, (ta.pers (grown hp)).append (tb.pers (grown hp))⟩
    · cases e
  · split at e
    · cases e
      rename_i hz
      refine ⟨_, op_catA, fun x y H Q vx vy q => ?_⟩
      obtain ⟨a, vs, rfl, ha, ta⟩ := vx.tup
      obtain ⟨b, ws, rfl, hb, tb⟩ := vy.tup
      refine ⟨_, _, _, _, rfl, rfl, SqT.of ha, SqT.of hb, by rw [ta.length, tb.length, ← sl16]; exact hz, fun e0 => ?_, fun e0 e1 => ?_, fun e0 e1 p hp => q _ _ (Res.upd hp ?_)⟩
      · subst e0
        cases ta
        exact q _ _ (Res.same (.tup hb tb))
      · subst e1
        cases tb
        rw [List.append_nil] at q
        exact q _ _ (Res.same (.tup ha ta))
      · exact .tup upd_same ((ta.pers (grown hp)).append (tb.pers (grown hp)))
    · cases e
  · cases e; exact ⟨_, op_sub, fun x y H Q vx vy q => ⟨_, _, vx.int, vy.int, q _ _ (Res.same (.int _))⟩⟩
  · split at e
    · cases e
      rename_i hz
      exact ⟨_, op_mul, fun x y H Q vx vy q => ⟨_, _, vx.int, vy.int, by simpa [CMul] using hz, q _ _ (Res.same (.int _))⟩⟩
    · cases e
  · split at e
    · cases e
      rename_i hz
      exact ⟨_, op_fdiv, fun x y H Q vx vy q => ⟨_, _, vx.int, vy.int, hz, q _ _ (Res.same (.int _))⟩⟩
    · cases e
  · split at e
    · cases e
      rename_i hz
      exact ⟨_, op_mod, fun x y H Q vx vy q => ⟨_, _, vx.int, vy.int, hz, q _ _ (Res.same (.int _))⟩⟩
    · cases e
  · split at e
    · cases e
      rename_i hz
      exact ⟨_, op_pow, fun x y H Q vx vy q => ⟨_, _, vx.int, vy.int, by simpa [CPow] using hz, q _ _ (Res.same (.int _))⟩⟩
    · cases e
  · split at e
    · cases e
      rename_i hz
      exact ⟨_, op_shl, fun x y H Q vx vy q => ⟨_, _, vx.int, vy.int, by simpa [CPow] using hz, q _ _ (Res.same (.int _))⟩⟩
    · cases e
  · split at e
    · cases e
      rename_i hz
      exact ⟨_, op_shr, fun x y H Q vx vy q => ⟨_, _, vx.int, vy.int, hz, q _ _ (Res.same (.int _))⟩⟩
    · cases e
  · cases e; exact ⟨_, op_and, fun x y H Q vx vy q => ⟨_, _, vx.int, vy.int, q _ _ (Res.same (.int _))⟩⟩
  · cases e; exact ⟨_, op_or, fun x y H Q vx vy q => ⟨_, _, vx.int, vy.int, q _ _ (Res.same (.int _))⟩⟩
  · cases e; exact ⟨_, op_xor, fun x y H Q vx vy q => ⟨_, _, vx.int, vy.int, q _ _ (Res.same (.int _))⟩⟩
  · cases e
theorem ops_un (xc : XC c N sc n X) (op : UnaryOp) : UnS c X (unaryOp op) (uns op) := by
  intro pins s σ H x v Q I rx q
  obtain ⟨dx, r, vx, e, q⟩ := q
  unfold uns at e
  split at e
  · cases e; exact un_neg pins s σ H x v Q I rx ⟨_, vx.int, q _ _ (Res.same (.int _))⟩
  · cases e; exact un_inv pins s σ H x v Q I rx ⟨_, vx.int, q _ _ (Res.same (.int _))⟩
  · cases e

theorem XC.units (xc : XC c N sc n X) : X.A.units + 200 < cLine := by have := xc.room.un; omega
/-! ### dicts -/
theorem valV_dGet {κ : Type} [DecidableEq κ] (k : κ) : ∀ kv : List (κ × V), valV kv k = dGet kv k
  | [] => rfl
  | (x, v) :: r => by
    unfold dGet
    by_cases h : x = k
    · rw [if_pos h]; exact valV_pos h
    · rw [if_neg h, ← valV_dGet k r]; exact valV_neg h
theorem dGet_rel {κ : Type} [DecidableEq κ] (k : κ) : ∀ {kv : List (κ × V)} {ks : List (κ × D)}, kv.map (·.1) = ks.map (·.1) → RpL c H (kv.map (·.2)) (ks.map (·.2)) →
    (∃ v d, dGet kv k = some v ∧ dGet ks k = some d ∧ Rp c H v d) ∨ (dGet kv k = none ∧ dGet ks k = none)
  | [], [], _, _ => .inr ⟨rfl, rfl⟩
  | [], _ :: _, e, _ => by simp at e
  | _ :: _, [], e, _ => by simp at e
  | (x, v) :: r, (y, d) :: r', e, t => by
    rw [List.map_cons, List.map_cons] at e t
    obtain ⟨e1, e2⟩ := List.cons.inj e
    have e1 : x = y := e1
    subst e1
    cases t with
    | cons h t =>
      unfold dGet
      by_cases hk : x = k
      · rw [if_pos hk, if_pos hk]; exact .inl ⟨v, d, rfl, rfl, h⟩
      · rw [if_neg hk, if_neg hk]; exact dGet_rel k e2 t
theorem key_ok {d : D} {k : Key} (e : d.key = some k) : d = kD k := by
  cases d with
  | int i => cases e; rfl
  | str x => cases e; rfl
  | _ => cases e
theorem Vw.key {x : V} {k : Key} (h : Vw c H x (kD k)) : x = kV k := by
  cases k with
  | inl i => exact h.int
  | inr z => exact h.str
theorem keysOf_ok : ∀ {ds : List D} {ks : List Key}, keysOf ds = some ks → ds = ks.map kD
  | [], _, e => by unfold keysOf at e; cases e; rfl
  | d :: ds, ks, e => by
    unfold keysOf at e
    cases e1 : d.key with
    | none => rw [e1] at e; cases e
    | some k =>
      rw [e1] at e
      cases e2 : keysOf ds with
      | none => rw [e2] at e; cases e
      | some ks' =>
        rw [e2] at e
        cases e
        rw [key_ok e1, keysOf_ok e2]
        rfl
theorem RpL.keysV : ∀ {vs : List V} {ks : List Key}, RpL c H vs (ks.map kD) → vs = ks.map kV
  | _, [], h => by cases h; rfl
  | _, k :: ks, h => by
    cases h with
    | cons h t => rw [Vw.key (.r h), RpL.keysV t]; rfl
theorem keyT_ok {d : D} {k : List Key} (e : d.keyT = some k) : d = .tup (k.map kD) := by
  cases d with
  | tup xs => have e : keysOf xs = some k := e; rw [keysOf_ok e]
  | _ => cases e
/-- a tuple of keys, as an object that is tracked -/
def TkT (H : Hp) (x : V) (k : List Key) : Prop := ∃ b, x = .ref b ∧ H b = some (.tup (k.map kV))
theorem ops_cmp_data (I : Inv X pins σ H s) {Q : VK} {bv : Bool} (q : ∀ z H', Res c H z (.d (.bl bv)) H' → Q z H') : EP X pins σ Q (.bool bv) s :=
  ⟨.bl bv, H, I, rfl, q _ _ (Res.same (.bl bv))⟩
theorem DGetR {a : Addr} {ks : List (Key × D)} {kv : List (Key × V)} {k : Key} (e : Rd H a (.dK kv)) (h1 : kv.map (·.1) = ks.map (·.1)) (h2 : RpL c H (kv.map (·.2)) (ks.map (·.2))) :
    ∃ o, DGet H a (kV k) o ∧ ((∃ v d, o = some v ∧ dGet ks k = some d ∧ Rp c H v d) ∨ (o = none ∧ dGet ks k = none)) := by
  refine ⟨valV kv k, .inl ⟨kv, k, e, rfl, rfl⟩, ?_⟩
  rw [valV_dGet]
  exact dGet_rel k h1 h2
theorem DGetRT {a : Addr} {ks : List (List Key × D)} {kv : List (List Key × V)} {k : List Key} {x : V} (tk : TkT H x k) (e : Rd H a (.dT kv)) (h1 : kv.map (·.1) = ks.map (·.1)) (h2 : RpL c H (kv.map (·.2)) (ks.map (·.2))) :
    ∃ o, DGet H a x o ∧ ((∃ v d, o = some v ∧ dGet ks k = some d ∧ Rp c H v d) ∨ (o = none ∧ dGet ks k = none)) := by
  obtain ⟨b, rfl, hb⟩ := tk
  refine ⟨valV kv k, .inr ⟨kv, k, b, e, rfl, hb, rfl⟩, ?_⟩
  rw [valV_dGet]
  exact dGet_rel k h1 h2
theorem Vw.dk {x : V} {ks : List (Key × D)} (h : Vw c H x (.dk ks)) : ∃ a kv, x = .ref a ∧ Rd H a (.dK kv) ∧ kv.map (·.1) = ks.map (·.1) ∧ RpL c H (kv.map (·.2)) (ks.map (·.2)) := by
  rcases h with h | @⟨a, o, ex, h, q⟩
  · cases h with
    | dk h e1 e2 t => subst e2; exact ⟨_, _, rfl, .inr h, e1, t⟩
  · cases o with
    | k ks' => cases q; obtain ⟨kv, hv, e1, t⟩ := h; exact ⟨a, kv, ex, .inl hv, e1, t⟩
    | _ => cases q
theorem Vw.ck {x : V} {ks : List (Str × D)} (h : Vw c H x (.ck ks)) : ∃ a kv, x = .ref a ∧ KDc c a kv ∧ kv.map (·.1) = ks.map (·.1) ∧ RpL c H (kv.map (·.2)) (ks.map (·.2)) := by
  rcases h with h | @⟨a, o, ex, h, q⟩
  · cases h with
    | ck h e1 e2 t => subst e2; exact ⟨_, _, rfl, h, e1, t⟩
  · cases o <;> cases q
theorem Vw.dt {x : V} {ks : List (List Key × D)} (h : Vw c H x (.dt ks)) : ∃ a kv, x = .ref a ∧ Rd H a (.dT kv) ∧ kv.map (·.1) = ks.map (·.1) ∧ RpL c H (kv.map (·.2)) (ks.map (·.2)) := by
  rcases h with h | @⟨a, o, ex, h, q⟩
  · cases h with
    | dt h e1 e2 t => subst e2; exact ⟨_, _, rfl, .inr h, e1, t⟩
  · cases o with
    | t ks' => cases q; obtain ⟨kv, hv, e1, t⟩ := h; exact ⟨a, kv, ex, .inl hv, e1, t⟩
    | _ => cases q
end
end Fl
set_option Elab.async false
set_option linter.all false
set_option maxRecDepth 100000
set_option maxHeartbeats 4000000
/-! Layer F, part 5: comparisons, truth, subscripts, built-ins. -/
namespace Fl
open PySem PySem.Spec PyProof.Rows L2 NdefX LamX
section
variable {X : Cx} {c : SC} {N : List Str} {sc : Scope} {n : Nat} {pins : List (Addr × Obj)} {σ : L2.St} {H : Hp} {s : Shared}
theorem map_bl {o : Option Bool} {r : RV} (e : (o.map fun b => RV.d (.bl b)) = some r) : ∃ b, o = some b ∧ r = .d (.bl b) := by
  cases o with
  | none => cases e
  | some b => cases e; exact ⟨b, rfl, rfl⟩
theorem eqD_ok {d e : D} {bv : Bool} (h : eqD d e = some bv) : ∃ p q, d.py = some p ∧ e.py = some q ∧ min p.depth q.depth ≤ 60 ∧ bv = PyData.eqv p q := by
  unfold eqD at h
  split at h
  · rename_i p q e1 e2
    split at h
    · cases h; exact ⟨p, q, e1, e2, by assumption, rfl⟩
    · cases h
  · cases h
theorem ordD_ok {o : Od} {d e : D} {bv : Bool} (h : ordD o d e = some bv) : ∃ p q, d.py = some p ∧ e.py = some q ∧ W.alike p q = true ∧ min p.depth q.depth ≤ 60 ∧ p ≠ .none ∧ bv = o.of p q := by
  unfold ordD at h
  split at h
  · rename_i p q e1 e2
    split at h
    · rename_i hh
      cases h
      refine ⟨p, q, e1, e2, hh.1, hh.2.1, fun z => ?_, rfl⟩
      rw [z] at hh
      exact nomatch hh.2.2
    · cases h
  · cases h
theorem ord_run (xc : XC c N sc n X) (I : Inv X pins σ H s) {o : Od} {op : CmpOp} (ho : (o = .lt ∧ op = .Lt) ∨ (o = .gt ∧ op = .Gt) ∨ (o = .le ∧ op = .LtE) ∨ (o = .ge ∧ op = .GtE)) {x y : V} {v u : Value} (rx : RelV x v) (ry : RelV y u) {dx dy : D} (vx : Vw c H x dx) (vy : Vw c H y dy) {bv : Bool} (h : ordD o dx dy = some bv) {Q : Value → Shared → Prop} (q : Q (.bool bv) s) :
    wpAny (model X.prog X.w) X.A (compareOp op v u) Q X.xe s := by
  obtain ⟨p, q', e1, e2, al, dp, nn, rfl⟩ := ordD_ok h
  obtain ⟨as, r1⟩ := vx.reads xc I e1 rx
  obtain ⟨bs, r2⟩ := vy.reads xc I e2 ry
  have hu : X.A.units + min p.depth q'.depth < cLine := by have := xc.units; omega
  rcases ho with ⟨rfl, rfl⟩ | ⟨rfl, rfl⟩ | ⟨rfl, rfl⟩ | ⟨rfl, rfl⟩
  · exact W.lt_data r1 r2 al nn hu q
  · exact W.gt_data r1 r2 al nn hu q
  · exact W.le_data r1 r2 al nn hu q
  · exact W.ge_data r1 r2 al nn hu q
theorem Vw.isNon {x : V} {d : D} (h : Vw c H x d) : decide (x = .non) = Fl.isNon d := by
  rcases h with h | @⟨a, o, ex, h, q⟩
  · cases h <;> first | rfl | exact decide_eq_false (fun z => nomatch z)
  · subst ex q
    cases o <;> exact decide_eq_false (fun z => nomatch z)
theorem memL_ok {d : D} {xs : List D} {bv : Bool} (h : memL d xs = some bv) : ∃ p ps, d.py = some p ∧ pyL xs = some ps ∧ min (PyData.depthAll ps) p.depth ≤ 60 ∧ bv = ps.any fun y => PyData.eqv y p := by
  unfold memL at h
  split at h
  · rename_i p ps e1 e2
    split at h
    · cases h; exact ⟨p, ps, e1, e2, by assumption, rfl⟩
    · cases h
  · cases h
theorem mem_run (xc : XC c N sc n X) (I : Inv X pins σ H s) {x y : V} {v u : Value} (rx : RelV x v) (ry : RelV y u) {d e : D} (vx : Vw c H x d) (vy : Vw c H y e) {bv : Bool} (h : memD d e = some bv) :
    (∀ Q : Value → Shared → Prop, (∀ s', Inv X pins σ H s' → Q (.bool bv) s') → wpAny (model X.prog X.w) X.A (compareOp .In v u) Q X.xe s) ∧
    (∀ Q : Value → Shared → Prop, (∀ s', Inv X pins σ H s' → Q (.bool (!bv)) s') → wpAny (model X.prog X.w) X.A (compareOp .NotIn v u) Q X.xe s) := by
  have hun := xc.units
  have hu1 : X.A.units + 1 < cLine := by omega
  have seq : ∀ xs, memL d xs = some bv → (e.py = (match pyL xs with | some ps => some (PyData.list ps) | none => none)) →
      (∀ Q : Value → Shared → Prop, (∀ s', Inv X pins σ H s' → Q (.bool bv) s') → wpAny (model X.prog X.w) X.A (compareOp .In v u) Q X.xe s) ∧
      (∀ Q : Value → Shared → Prop, (∀ s', Inv X pins σ H s' → Q (.bool (!bv)) s') → wpAny (model X.prog X.w) X.A (compareOp .NotIn v u) Q X.xe s) := fun xs h e0 => by
    obtain ⟨p, ps, e1, e2, dp, rfl⟩ := memL_ok h
    rw [e2] at e0
    obtain ⟨as, r1⟩ := vx.reads xc I e1 rx
    obtain ⟨bs, r2⟩ := vy.reads xc I e0 ry
    exact ⟨fun Q q => SeqAt.in_list_data r2 r1 (pyL_plain _ e2) (py_plain _ e1) (by omega) (q _ I), fun Q q => SeqAt.notIn_list_data r2 r1 (pyL_plain _ e2) (py_plain _ e1) (by omega) (q _ I)⟩
  have seqT : ∀ xs, memL d xs = some bv → (e.py = (match pyL xs with | some ps => some (PyData.tuple ps) | none => none)) →
      (∀ Q : Value → Shared → Prop, (∀ s', Inv X pins σ H s' → Q (.bool bv) s') → wpAny (model X.prog X.w) X.A (compareOp .In v u) Q X.xe s) ∧
      (∀ Q : Value → Shared → Prop, (∀ s', Inv X pins σ H s' → Q (.bool (!bv)) s') → wpAny (model X.prog X.w) X.A (compareOp .NotIn v u) Q X.xe s) := fun xs h e0 => by
    obtain ⟨p, ps, e1, e2, dp, rfl⟩ := memL_ok h
    rw [e2] at e0
    obtain ⟨as, r1⟩ := vx.reads xc I e1 rx
    obtain ⟨bs, r2⟩ := vy.reads xc I e0 ry
    exact ⟨fun Q q => SeqAt.in_tuple_data r2 r1 (pyL_plain _ e2) (py_plain _ e1) (by omega) (q _ I), fun Q q => SeqAt.notIn_tuple_data r2 r1 (pyL_plain _ e2) (py_plain _ e1) (by omega) (q _ I)⟩
  unfold memD at h
  split at h
  · exact seq _ h (by unfold D.py; rfl)
  · exact seqT _ h (by unfold D.py; rfl)
  · exact seqT _ h (by unfold D.py; rfl)
  · rename_i y'
    split at h
    · rename_i z
      cases h
      have ex := vx.str
      have ey := vy.str
      refine ⟨fun Q q => ?_, fun Q q => ?_⟩
      · exact thn (op_in_str pins s σ H x y v u (fun w' H' => w' = .bl (!(Builtin.Str.occurrences y' z 0 y'.length 1).isEmpty) ∧ H' = H) I rx ry ⟨_, _, ex, ey, rfl, rfl⟩) fun w' s' ⟨w0, H', I', r', e1, e2⟩ => by
          subst e1 e2
          cases r'
          exact q s' I'
      · exact thn (op_notIn_str pins s σ H x y v u (fun w' H' => w' = .bl (!(!(Builtin.Str.occurrences y' z 0 y'.length 1).isEmpty)) ∧ H' = H) I rx ry ⟨_, _, ex, ey, rfl, rfl⟩) fun w' s' ⟨w0, H', I', r', e1, e2⟩ => by
          subst e1 e2
          cases r'
          exact q s' I'
    · cases h
  · rename_i ks
    obtain ⟨a, kv, ey, hr, h1, h2⟩ := vy.dk
    subst ey
    have ru : u = Value.ref a := ry
    subst ru
    split at h
    · rename_i k ek
      cases h
      rw [key_ok ek] at vx
      have ex := Vw.key vx
      subst ex
      obtain ⟨o, hg, ho⟩ := DGetR (k := k) hr h1 h2
      have eo : o.isSome = (dGet ks k).isSome := by rcases ho with ⟨v', d', e1, e2, _⟩ | ⟨e1, e2⟩ <;> rw [e1, e2] <;> rfl
      rw [← eo]
      exact ⟨fun Q q => d_in hu1 I hg rx q, fun Q q => d_notIn hu1 I hg rx q⟩
    · cases h
  · rename_i ks
    obtain ⟨a, kv, ey, hk, h1, h2⟩ := vy.ck
    subst ey
    split at h
    · rename_i z
      cases h
      have ex := vx.str
      subst ex
      obtain ⟨es, nn, KD, k1, k2⟩ := hk
      rw [← xc.K, ← xc.w] at KD
      rw [← xc.K] at k1 k2
      obtain ⟨r0, hn, hb⟩ : ∃ r0, PySem.W.nsIn X.K a z = some r0 ∧ r0.isSome = (dGet ks z).isSome := by
        rcases dGet_rel z h1 h2 with ⟨v', d', e1, e2, _⟩ | ⟨e1, e2⟩
        · obtain ⟨u0, hn, _⟩ := k1 z v' e1
          exact ⟨_, hn, by rw [e2]; rfl⟩
        · exact ⟨_, k2 z e1, by rw [e2]; rfl⟩
      rw [← hb]
      refine ⟨fun Q q => ?_, fun Q q => ?_⟩
      · exact thn (op_in_kd KD pins s σ H _ (.ref a) v u (fun w' H' => w' = .bl r0.isSome ∧ H' = H) I rx ry ⟨z, r0, rfl, rfl, hn, rfl, rfl⟩) fun w' s' ⟨w0, H', I', r', e1, e2⟩ => by
          subst e1 e2
          cases r'
          exact q s' I'
      · exact thn (op_notIn_kd KD pins s σ H _ (.ref a) v u (fun w' H' => w' = .bl (!r0.isSome) ∧ H' = H) I rx ry ⟨z, r0, rfl, rfl, hn, rfl, rfl⟩) fun w' s' ⟨w0, H', I', r', e1, e2⟩ => by
          subst e1 e2
          cases r'
          exact q s' I'
    · cases h
  · rename_i ks
    obtain ⟨a, kv, ey, hr, h1, h2⟩ := vy.dt
    subst ey
    have ru : u = Value.ref a := ry
    subst ru
    split at h
    · rename_i k ek
      cases h
      rw [keyT_ok ek] at vx
      obtain ⟨b, vs, ex, hb, hv⟩ := vx.tup
      rw [RpL.keysV hv] at hb
      obtain ⟨o, hg, ho⟩ := DGetRT (k := k) ⟨b, ex, hb⟩ hr h1 h2
      have eo : o.isSome = (dGet ks k).isSome := by rcases ho with ⟨v', d', e1, e2, _⟩ | ⟨e1, e2⟩ <;> rw [e1, e2] <;> rfl
      rw [← eo]
      exact ⟨fun Q q => d_in hu1 I hg rx q, fun Q q => d_notIn hu1 I hg rx q⟩
    · cases h
  · cases h

theorem ops_cmp (xc : XC c N sc n X) (op : CmpOp) : OpS c X (compareOp op) (fun x y => (cmps op x y).map fun b => .d (.bl b)) := by
  intro pins s σ H x y v u Q I rx ry q
  obtain ⟨dx, dy, r, vx, vy, e, q⟩ := q
  obtain ⟨bv, e0, rfl⟩ := map_bl e
  clear e
  have e := e0
  clear e0
  have fin : ∀ s', Inv X pins σ H s' → EP X pins σ Q (.bool bv) s' := fun s' I' => ops_cmp_data I' q
  have hun := xc.units
  unfold cmps at e
  split at e
  · obtain ⟨p, q', e1, e2, dp, rfl⟩ := eqD_ok e
    obtain ⟨as, r1⟩ := vx.reads xc I e1 rx
    obtain ⟨bs, r2⟩ := vy.reads xc I e2 ry
    exact SeqAt.eq_plain r1 r2 (py_plain _ e1) (py_plain _ e2) (by omega) (fin _ I)
  · cases e0 : eqD dx dy with
    | none => rw [e0] at e; cases e
    | some b0 =>
      rw [e0] at e
      cases e
      obtain ⟨p, q', e1, e2, dp, rfl⟩ := eqD_ok e0
      obtain ⟨as, r1⟩ := vx.reads xc I e1 rx
      obtain ⟨bs, r2⟩ := vy.reads xc I e2 ry
      exact SeqAt.ne_plain r1 r2 (py_plain _ e1) (py_plain _ e2) (by omega) (fin _ I)
  · cases e; exact op_lt pins s σ H x y v u Q I rx ry ⟨_, _, vx.int, vy.int, q _ _ (Res.same (.bl _))⟩
  · exact ord_run xc I (.inl ⟨rfl, rfl⟩) rx ry vx vy e (fin _ I)
  · cases e; exact op_gt pins s σ H x y v u Q I rx ry ⟨_, _, vx.int, vy.int, q _ _ (Res.same (.bl _))⟩
  · exact ord_run xc I (.inr (.inl ⟨rfl, rfl⟩)) rx ry vx vy e (fin _ I)
  · cases e; exact op_le pins s σ H x y v u Q I rx ry ⟨_, _, vx.int, vy.int, q _ _ (Res.same (.bl _))⟩
  · exact ord_run xc I (.inr (.inr (.inl ⟨rfl, rfl⟩))) rx ry vx vy e (fin _ I)
  · cases e; exact op_ge pins s σ H x y v u Q I rx ry ⟨_, _, vx.int, vy.int, q _ _ (Res.same (.bl _))⟩
  · exact ord_run xc I (.inr (.inr (.inr ⟨rfl, rfl⟩))) rx ry vx vy e (fin _ I)
  · cases e; exact op_isN pins s σ H x y v u Q I rx ry ⟨vy.non, by rw [vx.isNon]; exact q _ _ (Res.same (.bl _))⟩
  · cases e; exact op_notN pins s σ H x y v u Q I rx ry ⟨vy.non, by rw [vx.isNon]; exact q _ _ (Res.same (.bl _))⟩
  · exact (mem_run xc I rx ry vx vy e).1 _ fin
  · cases e0 : memD dx dy with
    | none => rw [e0] at e; cases e
    | some b0 =>
      rw [e0] at e
      cases e
      exact (mem_run xc I rx ry vx vy e0).2 _ fin
  · cases e
theorem truth_ok (xc : XC c N sc n X) {x : V} {d : D} (h : Vw c H x d) {k : Bool} (e : truth d = some k) : TruV X.K x H k := by
  unfold truth at e
  split at e
  · cases e; rw [h.non]; rfl
  · cases e; rw [h.bl]; rfl
  · cases e; rw [h.int]; rfl
  · rename_i z
    split at e
    · cases e
      rename_i hz
      rw [h.str]
      refine ⟨by rw [← sl16]; exact hz, ?_⟩
      cases hl : z.length with
      | zero => rfl
      | succ m => rfl
    · cases e
  · cases e; obtain ⟨a, vs, rfl, ha, t⟩ := h.lst; exact .inl ⟨vs, .inl ha, by rw [t.nil_iff]⟩
  · cases e; obtain ⟨a, vs, rfl, ha, t⟩ := h.tup; exact .inr (.inl ⟨vs, SqT.of ha, by rw [t.nil_iff]⟩)
  · cases e; obtain ⟨a, vs, rfl, ha, t⟩ := h.tk; exact .inr (.inl ⟨vs, by rw [xc.K]; exact ha.sq _, by rw [t.nil_iff]⟩)
  · cases e
/-! ### subscripts -/
theorem atI_rp {vs : List V} {ds : List D} (t : RpL c H vs ds) {i : Int} {d : D} (e : atI ds i = some d) : ∃ v, atI vs i = some v ∧ Rp c H v d := by
  unfold atI at e ⊢
  rw [t.length]
  cases e1 : ixN ds.length i with
  | none => rw [e1] at e; cases e
  | some j => rw [e1] at e; exact t.get e
/-- a subscript of a dict on the heap -/
theorem ix_dict (hu : X.A.units + 1 < cLine) : IxR X (fun x y H Q => ∃ a v, x = .ref a ∧ DGet H a y (some v) ∧ Q v H) := by
  intro value slice pins s σ H x y v u Q I rx ry h hs
  obtain ⟨a, w0, rfl, g, q⟩ := h
  obtain rfl : v = Value.ref a := rx
  exact tail_any (dict_typeIs I g) slot_dict_getitem.lookup (d_getItem hu I g ry fun w' s' I' r' => ⟨w0, H, I', r', q⟩) hs
theorem ixs_ok (xc : XC c N sc n X) : IxR X (fun x y H Q => ∃ dx dy d, Vw c H x dx ∧ Vw c H y dy ∧ ixs dx dy = some d ∧ ∀ z H', Res c H z (.d d) H' → Q z H') := by
  intro value slice pins s σ H x y v u Q I rx ry h hs
  obtain ⟨dx, dy, d, vx, vy, e, q⟩ := h
  have hun := xc.units
  unfold ixs at e
  split at e
  · obtain ⟨a, vs, rfl, ha, t⟩ := vx.lst
    obtain ⟨z, hz, rz⟩ := atI_rp t e
    exact ix_list value slice pins s σ H _ y v u Q I rx ry ⟨_, _, _, _, rfl, vy.int, .inl ha, hz, q _ _ (Res.same rz)⟩ hs
  · obtain ⟨a, vs, rfl, ha, t⟩ := vx.tup
    obtain ⟨z, hz, rz⟩ := atI_rp t e
    exact ix_tup value slice pins s σ H _ y v u Q I rx ry ⟨_, _, _, _, rfl, vy.int, SqT.of ha, hz, q _ _ (Res.same rz)⟩ hs
  · obtain ⟨a, vs, rfl, ha, t⟩ := vx.tk
    obtain ⟨z, hz, rz⟩ := atI_rp t e
    exact ix_tup value slice pins s σ H _ y v u Q I rx ry ⟨_, _, _, _, rfl, vy.int, by rw [xc.K]; exact ha.sq _, hz, q _ _ (Res.same rz)⟩ hs
  · split at e
    · rename_i z i hz
      cases e1 : atI z.cps.toList i with
      | none => rw [e1] at e; cases e
      | some c0 =>
        rw [e1] at e
        cases e
        exact ix_str value slice pins s σ H x y v u Q I rx ry ⟨_, _, _, vx.str, vy.int, by rw [← sl16]; exact hz, e1, q _ _ (Res.same (.str _))⟩ hs
    · cases e
  · rename_i ks d0
    obtain ⟨a, kv, rfl, hr, h1, h2⟩ := vx.dk
    split at e
    · rename_i k ek
      rw [key_ok ek] at vy
      have ey := Vw.key vy
      subst ey
      obtain ⟨o, hg, ho⟩ := DGetR (k := k) hr h1 h2
      rcases ho with ⟨v', d', e1, e2, r'⟩ | ⟨e1, e2⟩
      · rw [e] at e2
        cases e2
        rw [e1] at hg
        exact ix_dict (by omega) value slice pins s σ H _ _ v u Q I rx ry ⟨a, v', rfl, hg, q _ _ (Res.same r')⟩ hs
      · rw [e] at e2; cases e2
    · cases e
  · rename_i ks z
    obtain ⟨a, kv, rfl, hk, h1, h2⟩ := vx.ck
    have ey := vy.str
    subst ey
    obtain ⟨es, nn, KD, k1, k2⟩ := hk
    rcases dGet_rel z h1 h2 with ⟨v', d', e1, e2, r'⟩ | ⟨e1, e2⟩
    · rw [e] at e2
      cases e2
      obtain ⟨u0, hn, ru⟩ := k1 z v' e1
      refine ix_kdict value slice pins s σ H _ _ v u Q I rx ry ⟨a, z, v', rfl, rfl, ⟨es, nn, u0, ?_, ?_, ?_, ru⟩, q _ _ (Res.same r')⟩ hs
      · rw [xc.K]; exact KD.at_
      · rw [xc.w]; exact KD.lit
      · rw [xc.K]; exact hn
    · rw [e] at e2; cases e2
  · rename_i ks d0
    obtain ⟨a, kv, rfl, hr, h1, h2⟩ := vx.dt
    split at e
    · rename_i k ek
      rw [keyT_ok ek] at vy
      obtain ⟨b, vs, ey, hb, hv⟩ := vy.tup
      rw [RpL.keysV hv] at hb
      obtain ⟨o, hg, ho⟩ := DGetRT (k := k) ⟨b, ey, hb⟩ hr h1 h2
      rcases ho with ⟨v', d', e1, e2, r'⟩ | ⟨e1, e2⟩
      · rw [e] at e2
        cases e2
        rw [e1] at hg
        exact ix_dict (by omega) value slice pins s σ H _ _ v u Q I rx ry ⟨a, v', rfl, hg, q _ _ (Res.same r')⟩ hs
      · rw [e] at e2; cases e2
    · cases e
  · cases e
theorem RpL.cut {vs : List V} {ds : List D} (t : RpL c H vs ds) (lo hi : Option Int) : RpL c H (cutV vs lo hi) (cutL ds lo hi) := by
  unfold cutV cutL
  rw [t.length]
  exact (t.drop _).take _
theorem sls_ok (xc : XC c N sc n X) : SlR X (fun x lo hi H Q => ∃ dx r, Vw c H x dx ∧ sls dx lo hi = some r ∧ ∀ z H', Res c H z r H' → Q z H') := by
  intro pins s σ H x v vl vu lo hi sl Q I rx hs pl pu h
  obtain ⟨dx, r, vx, e, q⟩ := h
  unfold sls at e
  split at e
  · cases e
    obtain ⟨a, vs, rfl, ha, t⟩ := vx.lst
    refine sl_list pins s σ H _ v vl vu lo hi sl Q I rx hs pl pu ⟨a, vs, rfl, .inl ha, fun p hp => q _ _ (Res.upd hp ?_)⟩
    exact ⟨_, upd_same, (t.pers (grown hp)).cut lo hi⟩
  · cases e
    obtain ⟨a, vs, rfl, ha, t⟩ := vx.tup
    refine sl_tupA pins s σ H _ v vl vu lo hi sl Q I rx hs pl pu ⟨a, vs, rfl, SqT.of ha, fun hw => ?_, fun hw p hp => q _ _ (Res.upd hp ?_)⟩
    · refine q _ _ (Res.same (.tup ha ?_))
      have e0 : cutV vs lo hi = vs := by
        unfold cutV
        rw [hw.1, hw.2]
        simp
      rw [← e0]
      have := t.cut lo hi
      exact this
    · exact .tup upd_same ((t.pers (grown hp)).cut lo hi)
  · split at e
    · cases e
      rename_i hz
      exact C8.sl_txt pins s σ H x v vl vu lo hi sl Q I rx hs pl pu ⟨_, vx.str, by rw [← sl16]; exact hz, q _ _ (Res.same (.str _))⟩
    · cases e
  · cases e
end
end Fl
set_option Elab.async false
set_option linter.all false
set_option maxRecDepth 100000
set_option maxHeartbeats 4000000
/-! Layer F, part 6: built-in functions. -/
namespace PySem
namespace FlX
open PySem PyProof.Rows Calls PySem.W
variable {prog : Program} {w : World} {A : Around} {E : Value → Shared → Prop} {s : Shared}
theorem collect_tup {l : Addr} {vs : List Value} {Q : List Value → Shared → Prop} (hl : s.heap.IsTuple l vs.toArray)
    (h : Q vs { s with heap := (s.heap.push (seqObj "list" #[] 0)).update s.heap.objs.size (Obj.mapSeq (· ++ vs.toArray)) }) (hsz : vs.length ≤ sizeLine) :
    wpAny (model prog w) A (collect (.ref l)) Q E s := by
  obtain ⟨o, ho, hc, n, hd⟩ := id hl
  unfold collect
  refine wpAny_bind (wpAny_runValue (codeAny_builtin entry_proto_collect' ?_))
  show wpAny _ _ (do again (.builtin "list.__iadd__" ⟨[← newList [], .ref l], []⟩)) _ _ s
  refine wpAny_bind (wpAny_newList (wpAny_pure ⟨Code.quiet_builtin _ (by decide +kernel), codeAny_builtin entry_list_iadd' ?_⟩))
  show wpAny _ _ (Builtin.List.listExtendWith (.ref s.heap.objs.size) (.ref l) (.ref s.heap.objs.size)) _ _ { s with heap := s.heap.push (seqObj "list" #[] 0) }
  unfold Builtin.List.listExtendWith
  have ho' : (s.heap.push (seqObj "list" #[] 0)).get? l = some o := Heap.get?_push_of_some _ ho
  refine wpAny_bind (wpAny_typeOf (T := "tuple") ⟨o, ho', hc⟩ ?_)
  have ht : (Value.type "tuple" == Value.type "tuple") = true := by rfl
  rw [if_pos (by rw [ht]; simp)]
  refine wpAny_bind (listItems_at ho' hd ?_)
  refine wpAny_bind (listItems_at (xs := #[]) (n := 0) (Heap.get?_push_size _ rfl) rfl ?_)
  rw [if_neg (by simp)]
  refine wpAny_bind (listUpdate_at (xs := #[]) (n := 0) (Heap.get?_push_size _ rfl) rfl ?_ (Nat.zero_le _) (by show (#[] ++ vs.toArray).size ≤ sizeLine + 1; simp only [Array.size_append, List.size_toArray, List.length_nil]; omega))
  refine wpAny_pure ?_
  show wpAny (model prog w) A (do
      let o ← load s.heap.objs.size
      match o.data with
      | .seq xs _ => pure xs.toList
      | _ => unsupported "internal:collect") Q E { s with heap := (s.heap.push (seqObj "list" #[] 0)).update s.heap.objs.size (Obj.mapSeq (· ++ vs.toArray)) }
  refine wpAny_bind (wpAny_load (get?_update_seq (Heap.get?_push_size _ rfl) _) ?_)
  show wpAny _ _ (pure ((#[] : Array Value) ++ vs.toArray).toList) Q E _
  rw [show ((#[] : Array Value) ++ vs.toArray).toList = vs by simp]
  exact wpAny_pure h
theorem sorted_of_sortT {l : Addr} {vs : List Value} {kw : List (Str × Value)} {Q : Value → Shared → Prop} (hl : s.heap.IsTuple l vs.toArray) (hL : vs.length ≤ sizeLine) (ha1 : argsOk "sorted" ⟨[.ref l], kw⟩) (ha2 : ∀ x, argsOk "list.sort" ⟨[.ref x], kw⟩)
    (body : ∀ E' : Value → Shared → Prop, wpAny (model prog w) A.in1.in1 (Builtin.«list.sort» ⟨[.ref (s.heap.objs.size + 1)], kw⟩) (fun f s' => f = .done (.ret .none) ∧ Q (.ref (s.heap.objs.size + 1)) s') E' { s with heap := copyHeap s.heap vs }) :
    wpAny (model prog w) A (call (.builtin "sorted") [.ref l] kw) Q E s := by
  refine call_function_entry_kw kind_sorted plain_sorted entry_sorted ha1 ?_
  unfold Builtin.«sorted»
  refine wpAny_bind (m := checkCount "sorted" 1 1 _) (wpAny_pure ?_)
  refine wpAny_bind (collect_tup hl ?_ hL)
  refine wpAny_bind (wpAny_newList ?_ hL)
  have hsz : ((s.heap.push (seqObj "list" #[] 0)).update s.heap.objs.size (Obj.mapSeq (· ++ vs.toArray))).objs.size = s.heap.objs.size + 1 := by
    rw [Heap.size_update, size_push']
  show wpAny _ _ _ _ _ { s with heap := copyHeap s.heap vs }
  rw [hsz]
  refine wpAny_bind (wpAny_holding (wpAny_call_entry_kw slot_list_sort ⟨_, copyHeap_at s.heap vs, rfl⟩ entry_list_sort ?body (ha2 _)))
  case body =>
    show wpAny (model prog w) A.in1.in1 (Builtin.«list.sort» ⟨[.ref (s.heap.objs.size + 1)], kw⟩) _ _ _
    refine wpAny_mono (body _) (fun f s' hf => ?_) fun _ _ e => e
    obtain ⟨rfl, hq⟩ := hf
    exact ⟨_, rfl, wpAny_pure ⟨_, rfl, hq⟩⟩
/-- sorted(xs), xs a list or a tuple -/
theorem sorted_dataA {β : Type} {R : Value → β → Prop} {enc : β → PyData} {vs : List Value} {bs : List β} {l : Addr} {Q : Value → Shared → Prop} (hl : s.heap.IsList l vs.toArray ∨ s.heap.IsTuple l vs.toArray) (e : EachIs R vs bs) (er : EachIs (fun v b => ∃ as, Reads s.heap v (enc b) as) vs bs) (hal : AllAlike (bs.map enc)) (hk : Sortable (bs.map enc)) (hL : bs.length ≤ sizeLine)
    (hu : ∀ b, b ∈ bs → A.units + 2 + (enc b).depth < cLine) (h : ∀ out, out.length = bs.length → EachIs R out (bs.mergeSort (dataLe false enc)) → Q (.ref (s.heap.objs.size + 1)) { s with heap := sortedAll s.heap vs (List.toArray out) }) :
    wpAny (model prog w) A (call (.builtin "sorted") [.ref l]) Q E s := by
  rcases hl with hl | hl
  · exact sorted_data hl e er hal hk hL hu h
  · have er' : EachIs (fun v b => ∃ as, Reads (sortingHeap (copyHeap s.heap vs) (s.heap.objs.size + 1) vs) v (enc b) as) vs bs := er.mono fun _ _ ⟨as, r⟩ => ⟨as, PyProof.Rows.Reads.keeps (fun _ _ => sorting_copy_old) r⟩
    have bound_map : ∀ d, d ∈ bs.map enc → A.units + 2 + d.depth < cLine := fun d hd => by
      obtain ⟨b, hb, rfl⟩ := List.mem_map.mp hd
      exact hu b hb
    have hL' : vs.length ≤ sizeLine := by rw [e.length]; exact hL
    refine sorted_of_sortT hl hL' (args_sorted1 _) (fun _ => args_list_sort _) fun _ => list_sort_vals (s := { s with heap := copyHeap s.heap vs }) (copyHeap_at s.heap vs) (SortsAt.data (s := { s with heap := sortingHeap (copyHeap s.heap vs) (s.heap.objs.size + 1) vs }) (each_map (R := fun v d => ∃ as, Reads (sortingHeap (copyHeap s.heap vs) (s.heap.objs.size + 1) vs) v d as) enc er') hal hk bound_map) hL' ⟨rfl, ?_⟩
    exact h _ (by rw [sortVals_length false rfl]; exact e.length) (sortVals_data false e er' hal)
end FlX
end PySem
namespace Fl
open PySem PySem.Spec PyProof.Rows L2 NdefX LamX
section
variable {X : Cx} {c : SC} {N : List Str} {sc : Scope} {n : Nat} {pins : List (Addr × Obj)} {σ : L2.St} {H : Hp} {s : Shared}
theorem CallS.of {f : Value} {g : List D → Option RV} (h : ∀ ds r, g ds = some r → ∃ rr : List V → Hp → VK → Prop, CallR X f rr ∧ ∀ xs H Q, VwL c H xs ds → (∀ z H', Res c H z r H' → Q z H') → rr xs H Q) : CallS c X f g := by
  intro pins s σ H xs us Q I rx q
  obtain ⟨ds, r, vx, e, q⟩ := q
  obtain ⟨rr, ho, hh⟩ := h ds r e
  exact ho pins s σ H xs us Q I rx (hh xs H Q vx q)
theorem VwL.one {xs : List V} {d : D} (h : VwL c H xs [d]) : ∃ x, xs = [x] ∧ Vw c H x d := by
  cases h with
  | cons h t => cases t; exact ⟨_, rfl, h⟩
theorem VwL.two {xs : List V} {d e : D} (h : VwL c H xs [d, e]) : ∃ x y, xs = [x, y] ∧ Vw c H x d ∧ Vw c H y e := by
  cases h with
  | cons h t => cases t with
    | cons h2 t2 => cases t2; exact ⟨_, _, rfl, h, h2⟩
def RvD (c : SC) (H : Hp) (v : Value) (d : D) : Prop := ∃ x, RelV x v ∧ Rp c H x d
theorem each_of : ∀ {vs : List V} {its : List Value} {ds : List D}, Vals vs its → RpL c H vs ds → PySem.W.EachIs (RvD c H) its ds
  | _, _, _, .nil, .nil => .nil
  | _, _, _, .cons r t, .cons h q => .cons ⟨_, r, h⟩ (each_of t q)
theorem of_each : ∀ {out : List Value} {ds : List D}, PySem.W.EachIs (RvD c H) out ds → ∃ ws, Vals ws out ∧ RpL c H ws ds
  | _, _, .nil => ⟨[], .nil, .nil⟩
  | _, _, .cons ⟨x, r, h⟩ t => by
    obtain ⟨ws, a, b⟩ := of_each t
    exact ⟨x :: ws, .cons r a, .cons h b⟩
theorem pyL_map : ∀ {ds : List D} {ps : List PyData}, pyL ds = some ps → ps = ds.map pyD ∧ ∀ d ∈ ds, ∃ p, d.py = some p
  | [], _, e => by unfold pyL at e; cases e; exact ⟨rfl, fun _ h => by cases h⟩
  | d :: ds, ps, e => by
    unfold pyL at e
    cases e1 : d.py with
    | none => rw [e1] at e; cases e
    | some p =>
      rw [e1] at e
      cases e2 : pyL ds with
      | none => rw [e2] at e; cases e
      | some qs =>
        rw [e2] at e
        cases e
        obtain ⟨a, b⟩ := pyL_map e2
        refine ⟨by rw [List.map_cons, ← a]; show p :: qs = d.py.getD .none :: qs; rw [e1]; rfl, fun d' hd => ?_⟩
        rcases List.mem_cons.mp hd with rfl | hd
        · exact ⟨p, e1⟩
        · exact b d' hd
theorem each_reads (xc : XC c N sc n X) (I : Inv X pins σ H s) : ∀ {vs : List V} {its : List Value} {ds : List D}, Vals vs its → RpL c H vs ds → (∀ d ∈ ds, ∃ p, d.py = some p) → PySem.W.EachIs (fun v b => ∃ as, Reads s.heap v (pyD b) as) its ds
  | _, _, _, .nil, .nil, _ => .nil
  | _, _, _, .cons r t, .cons (d := d) h q, hp => by
    obtain ⟨p, e⟩ := hp d (List.mem_cons_self ..)
    have e' : pyD d = p := by show d.py.getD .none = p; rw [e]; rfl
    obtain ⟨as, ra⟩ := (Vw.r h).reads xc I e r
    exact .cons ⟨as, by rw [e']; exact ra⟩ (each_reads xc I t q fun d' hd => hp d' (List.mem_cons_of_mem _ hd))
theorem alikeB_ok {ps : List PyData} (h : alikeB ps = true) : W.AllAlike ps := fun d hd d' hd' => List.all_eq_true.mp (List.all_eq_true.mp h d hd) d' hd'
theorem sortable_ok {ps : List PyData} (h : ps.all isTupC = true ∨ ps.all isFlatK = true) : W.Sortable ps := by
  rcases h with h | h
  · refine .inl fun d hd => ?_
    have q := List.all_eq_true.mp h d hd
    cases d with
    | tuple xs => cases xs with
      | nil => cases q
      | cons x r => exact ⟨x, r, rfl⟩
    | _ => cases q
  · refine .inr fun d hd => ?_
    have q := List.all_eq_true.mp h d hd
    cases d with
    | bool b => exact ⟨nofun, nofun⟩
    | int b => exact ⟨nofun, nofun⟩
    | str b => exact ⟨nofun, nofun⟩
    | _ => cases q
theorem depth_mem {p : PyData} : ∀ {ps : List PyData}, p ∈ ps → p.depth ≤ PyData.depthAll ps
  | q :: qs, h => by
    rw [PyData.depthAll]
    rcases List.mem_cons.mp h with rfl | h
    · exact Nat.le_max_left _ _
    · exact Nat.le_trans (depth_mem h) (Nat.le_max_right _ _)
theorem sortL_ok {xs ys : List D} (h : sortL xs = some ys) : ∃ ps, pyL xs = some ps ∧ W.AllAlike ps ∧ W.Sortable ps ∧ PyData.depthAll ps ≤ 60 ∧ xs.length ≤ sizeLine ∧ ys = xs.mergeSort (W.dataLe false pyD) := by
  unfold sortL at h
  split at h
  · rename_i ps e
    split at h
    · rename_i hh
      cases h
      exact ⟨ps, e, alikeB_ok hh.1, sortable_ok hh.2.1, hh.2.2.1, by rw [← sl16]; exact hh.2.2.2, rfl⟩
    · cases h
  · cases h
theorem isTup_of {h : Heap} {a : Addr} {its : Array Value} (x : IsTup h a its) : h.IsTuple a its := x
theorem sorted_run (xc : XC c N sc n X) (I : Inv X pins σ H s) {a : Addr} {vs : List V} {ds ys : List D} (ha : Rd H a (.lst vs) ∨ SqT c.K H a vs) (t : RpL c H vs ds) (h : sortL ds = some ys) {Q : VK} (q : ∀ z H', Res c H z (.n (.l ys)) H' → Q z H') :
    wpAny (model X.prog X.w) X.A (call (.builtin "sorted") [.ref a]) (EP X pins σ Q) X.xe s := by
  obtain ⟨ps, e, al, so, dp, hz, rfl⟩ := sortL_ok h
  obtain ⟨em, hp⟩ := pyL_map e
  have hl : ∃ its : List Value, Vals vs its ∧ (s.heap.IsList a its.toArray ∨ s.heap.IsTuple a its.toArray) := by
    rcases ha with ha | ha
    · obtain ⟨_, its, k, r, _, e⟩ := Rd.lst I ha
      exact ⟨its, r, .inl ⟨_, e, rfl, k, rfl⟩⟩
    · obtain ⟨its, r, p, _⟩ := I.tuple (by rw [xc.K]; exact ha)
      exact ⟨its, r, .inr p⟩
  obtain ⟨its, r, hl⟩ := hl
  have hun := xc.units
  refine PySem.FlX.sorted_dataA (enc := pyD) hl (each_of r t) (each_reads xc I r t hp) (by rw [← em]; exact al) (by rw [← em]; exact so) hz (fun b hb => ?_) fun out ho eo => ?_
  · have := depth_mem (p := pyD b) (ps := ps) (by rw [em]; exact List.mem_map.mpr ⟨b, hb, rfl⟩)
    omega
  · obtain ⟨ws, rw', tw⟩ := of_each eo
    obtain ⟨ep, he'⟩ := PyProof.Rows.sortedAll_at s.heap its out.toArray
    have hn : H (s.heap.objs.size + 1) = none := I.hok.fresh (Nat.le_succ _)
    have hlen : ws.length ≤ sizeLine := by rw [rw'.length, ho]; exact hz
    exact ⟨.ref _, upd H (s.heap.objs.size + 1) (.lst ws), I.laid (t' := s.toks) (fun _ _ => PyProof.Rows.sortedAll_old) (Nat.le_succ _) ⟨hlen, out, ep, rw', he'⟩, rfl, q _ _ (Res.upd hn ⟨_, upd_same, tw.pers (grown hn)⟩)⟩

/-! ### isinstance -/
def tyV (c : SC) : Ty → V
  | .int => .ty "int"
  | .str => .ty "str"
  | .bool => .ty "bool"
  | .tuple => .ty "tuple"
  | .list => .ty "list"
  | .dict => .ty "dict"
  | .cls C => .ref (c.clsA C)
def tyU (c : SC) : Ty → Value
  | .int => .type "int"
  | .str => .type "str"
  | .bool => .type "bool"
  | .tuple => .type "tuple"
  | .list => .type "list"
  | .dict => .type "dict"
  | .cls C => .ref (c.clsA C)
def typV (c : SC) : D → Value
  | .non => .type "NoneType"
  | .bl _ => .type "bool"
  | .int _ => .type "int"
  | .str _ => .type "str"
  | .tup _ => .type "tuple"
  | .tk _ => .type "tuple"
  | .lst _ => .type "list"
  | .dk _ => .type "dict"
  | .ck _ => .type "dict"
  | .dt _ => .type "dict"
  | .ins C _ => .ref (c.clsA C)
  | .fn _ _ => .type "function"
def builtTs : List String := ["NoneType", "bool", "int", "str", "tuple", "list", "dict"]
/-- what the classes of the text are -/
structure CF (c : SC) : Prop where
  cl : ∀ C, c.isCls C = true → Cls c.K (c.clsA C)
  ha : ∀ C, c.isCls C = true → PySem.W.findIn c.K (.ref (c.clsA C)) "__class__" = some (some (.builtin "object.__class__"))
  hn : PySem.W.specialIn c.K (.builtin "object.__class__") "__get__" = some (some (.builtin "getset_descriptor.__get__"))
  htk : PySem.W.takesIn c.K (.builtin "object.__class__") = some true
  hm : ∀ C, c.isCls C = true → PySem.W.mroIn c.K (c.clsA C) (.type "object") = some true
  kb : ∀ C, c.isCls C = true → ∀ T ∈ builtTs, PySem.W.kitOne c.K (.type T) (.ref (c.clsA C)) = some false ∧ PySem.W.kitOne c.K (.ref (c.clsA C)) (.type T) = some false
  kc : ∀ C E, c.isCls C = true → c.isCls E = true → PySem.W.kitOne c.K (.ref (c.clsA C)) (.ref (c.clsA E)) = some (decide (C = E))
theorem ins_ok {P : Program} {w : World} {H : Hp} {h : Heap} {a C dx : Addr} {fs : List (Str × V)} (x : ObjOk P w H h a (.ins C dx fs)) : ∃ mA, ObjM h a dx C mA ∧ (∀ f, RelO (fs.lookup f) (mA f)) ∧ PySem.Within mA (fs.map (·.1)) ∧ fs.length ≤ 1000 ∧ H dx = some (.own a) := by
  obtain ⟨d, z, ne, e, mA, hns, r, wi⟩ := x
  exact ⟨mA, ⟨e, hns, ne⟩, r, wi, z, d⟩
/-- an instance, at rest or not -/
theorem Vw.ins {x : V} {C : Nat} {fs : List (Nat × D)} (h : Vw c H x (.ins C fs)) : c.isCls C = true ∧ ∃ a dx fv, x = .ref a ∧ Rd H a (.ins (c.clsA C) dx fv) ∧ fv.map (·.1) = fs.map (fun p => c.fldN p.1) ∧ RpL c H (fv.map (·.2)) (fs.map (·.2)) := by
  rcases h with h | @⟨a, o, ex, h, q⟩
  · cases h with
    | ins hC h e1 e2 t => subst e2; exact ⟨hC, _, _, _, rfl, .inr h, e1, t⟩
  · cases o with
    | i C' fs' => cases q; obtain ⟨hC, dx, fv, hv, e1, t⟩ := h; exact ⟨hC, a, dx, fv, ex, .inl hv, e1, t⟩
    | _ => cases q
theorem kitB_all : (["NoneType", "bool", "int", "str", "tuple", "list", "dict"].all fun a => ["int", "str", "bool", "tuple", "list", "dict"].all fun b => decide (kitB a b = some (a == b || (a == "bool" && b == "int")))) = true := by decide +kernel
theorem kitB_at {a b : String} (ha : a ∈ ["NoneType", "bool", "int", "str", "tuple", "list", "dict"]) (hb : b ∈ ["int", "str", "bool", "tuple", "list", "dict"]) : kitB a b = some (a == b || (a == "bool" && b == "int")) :=
  of_decide_eq_true (List.all_eq_true.mp (List.all_eq_true.mp kitB_all a ha) b hb)
theorem kit_typ (cf : CF c) {d : D} {t : Ty} (hd : isFn d = false) (hC : ∀ C fs, d = .ins C fs → c.isCls C = true) (ht : ∀ C, t = .cls C → c.isCls C = true) : PySem.W.kitOne c.K (typV c d) (tyU c t) = some (isTy d t) := by
  cases d with
  | fn k cs => cases hd
  | ins C fs =>
    have h := hC C fs rfl
    cases t with
    | cls E => exact cf.kc C E h (ht E rfl)
    | _ => exact (cf.kb C h _ (by simp [builtTs])).2
  | _ =>
    cases t with
    | cls E => exact (cf.kb E (ht E rfl) _ (by simp [builtTs])).1
    | _ => exact kit_ty (kitB_at (by simp) (by simp))
theorem kit_vw (xc : XC c N sc n X) (cf : CF c) (I : Inv X pins σ H s) {x : V} {u : Value} {d : D} (h : Vw c H x d) (rx : RelV x u) (hd : isFn d = false) : ∃ P : Heap → Prop, PySem.W.KitX X.K u (typV c d) P ∧ P s.heap ∧ u ≠ .builtin "__main__.__loader__#opaque" := by
  have base : ∀ {t : Value}, TyX X.K H x t → ∃ P : Heap → Prop, PySem.W.KitX X.K u t P ∧ P s.heap ∧ u ≠ .builtin "__main__.__loader__#opaque" := fun t => kit_of I rx t
  have isL : ∀ {a : Addr} {vs : List V}, x = .ref a → Rd H a (.lst vs) → TyX X.K H x (.type "list") := fun e hr => by
    subst e
    rcases hr with hr | ⟨o, hr⟩
    · exact .base (.lst hr)
    · exact .base (.frz hr)
  have isDK : ∀ {a : Addr} {kv : List (Key × V)}, x = .ref a → Rd H a (.dK kv) → TyX X.K H x (.type "dict") := fun e hr => by
    subst e
    rcases hr with hr | ⟨o, hr⟩
    · exact .base (.dK hr)
    · exact .fDict hr
  cases d with
  | non => have e := h.non; subst e; exact base (.base .non)
  | bl b => have e := h.bl; subst e; exact base (.base (.bl b))
  | int b => have e := h.int; subst e; exact base (.base (.int b))
  | str b => have e := h.str; subst e; exact base (.base (.str b))
  | tup ds => obtain ⟨a, vs, rfl, ha, _⟩ := h.tup; exact base (.base (.tup ha))
  | tk ds => obtain ⟨a, vs, rfl, ⟨o, its, k, hk, hc, _⟩, _⟩ := h.tk; exact base (.kTuple (by rw [xc.K]; exact hk) hc)
  | lst ds => obtain ⟨a, vs, e, ha, _⟩ := h.lst; exact base (isL e ha)
  | dk ds => obtain ⟨a, kv, e, ha, _⟩ := h.dk; exact base (isDK e ha)
  | ck ds => obtain ⟨a, kv, rfl, ⟨es, k, KD, _⟩, _⟩ := h.ck; exact base (.kDict (by rw [xc.K]; exact KD.at_) rfl)
  | dt ds =>
    obtain ⟨a, kv, e, ha, _⟩ := h.dt
    subst e
    rcases ha with ha | ⟨o, ha⟩
    · exact base (.base (.dT ha))
    · cases (show u = Value.ref a from rx)
      obtain ⟨_, _, _, xs, _, o', es, ep, h1, h2, _⟩ := (show ObjOk X.prog X.w H s.heap a (.frz o (.dT kv)) from I.hok a _ ha)
      exact ⟨_, PySem.W.kitx_dict, ⟨o', h1, h2.1⟩, fun z => nomatch z⟩
  | ins C fs =>
    obtain ⟨hC, a, dx, fv, e, ha, _, _⟩ := h.ins
    subst e
    cases (show u = Value.ref a from rx)
    obtain ⟨mA, O, _⟩ := ins_ok (ha.ok I.hok)
    obtain ⟨od, J, _⟩ := O.look
    have cl := cf.cl C hC
    have h1 := cf.ha C hC
    have h2 := cf.hn
    have h3 := cf.htk
    have h4 := cf.hm C hC
    rw [← xc.K] at cl h1 h2 h3 h4
    exact ⟨_, PySem.W.kitx_own (cl.get _) cl.hd h1 h2 h3 h4, J, fun z => nomatch z⟩
  | fn k cs => cases hd
theorem call_isiF (xc : XC c N sc n X) (cf : CF c) {t : Ty} (ht : ∀ C, t = .cls C → c.isCls C = true) : CallR X (.builtin "isinstance") (fun xs H Q => ∃ x d, xs = [x, tyV c t] ∧ Vw c H x d ∧ isFn d = false ∧ ∀ z H', Res c H z (.d (.bl (isTy d t))) H' → Q z H') := by
  intro pins s σ H xs us Q I r h
  obtain ⟨x, d, rfl, vx, hd, q⟩ := h
  obtain ⟨u1, u2, rfl, r1, r2⟩ := vals2 r
  have e2 : u2 = tyU c t := by
    cases t <;> exact r2
  subst e2
  obtain ⟨P, Z, p, hx⟩ := kit_vw xc cf I vx r1 hd
  have hk := kit_typ cf (t := t) hd (fun C fs e => by subst e; exact vx.ins.1) ht
  rw [← xc.K] at hk
  exact PySem.W.kia_one Z I.kIn p hk hx fun tk => ⟨.bl (isTy d t), H, I.tok tk, rfl, q _ _ (Res.same (.bl _))⟩

/-! ### the others -/
def blV : Bl → Value
  | .len => .builtin "len"
  | .abs => .builtin "abs"
  | .int => .type "int"
  | .min => .builtin "min"
  | .max => .builtin "max"
  | .sum => .builtin "sum"
  | .all => .builtin "all"
  | .any => .builtin "any"
  | .sorted => .builtin "sorted"
  | .list => .type "list"
  | .tuple => .type "tuple"
  | .str => .type "str"
  | .divmod => .builtin "divmod"
  | .isi _ => .builtin "isinstance"
theorem RpL.intsV : ∀ {vs : List V} {ds : List D} {is : List Int}, RpL c H vs ds → intsOf ds = some is → vs = is.map V.int
  | _, _, _, .nil, e => by unfold intsOf at e; cases e; rfl
  | _, _, _, .cons (d := d) (ds := ds) h t, e => by
    cases d with
    | int i =>
      unfold intsOf at e
      cases e2 : intsOf ds with
      | none => rw [e2] at e; cases e
      | some is' => rw [e2] at e; cases e; cases h; rw [RpL.intsV t e2]; rfl
    | _ => cases e
theorem RpL.blsV : ∀ {vs : List V} {ds : List D} {is : List Bool}, RpL c H vs ds → blsOf ds = some is → vs = is.map V.bl
  | _, _, _, .nil, e => by unfold blsOf at e; cases e; rfl
  | _, _, _, .cons (d := d) (ds := ds) h t, e => by
    cases d with
    | bl i =>
      unfold blsOf at e
      cases e2 : blsOf ds with
      | none => rw [e2] at e; cases e
      | some is' => rw [e2] at e; cases e; cases h; rw [RpL.blsV t e2]; rfl
    | _ => cases e
theorem of_flat {d : D} {p : PyData} (h : d.py = some p) (f : isFlatK p = true) : d = ofPy p := by
  cases d with
  | non => cases h; cases f
  | bl b => cases h; rfl
  | int b => cases h; rfl
  | str b => cases h; rfl
  | tup xs => unfold D.py at h; split at h <;> cases h; cases f
  | tk xs => unfold D.py at h; split at h <;> cases h; cases f
  | lst xs => unfold D.py at h; split at h <;> cases h; cases f
  | _ => unfold D.py at h; cases h
theorem flat_depth : ∀ {ps : List PyData}, ps.all isFlatK = true → PyData.depthAll ps = 0
  | [], _ => by rw [PyData.depthAll]
  | p :: ps, h => by
    rw [List.all_cons, Bool.and_eq_true] at h
    rw [PyData.depthAll, flat_depth h.2]
    cases p with
    | bool b => simp [PyData.depth]
    | int b => simp [PyData.depth]
    | str b => simp [PyData.depth]
    | _ => cases h.1
theorem alikeAll_ok {ps : List PyData} (h : alikeB ps = true) (f : ps.all isFlatK = true) : W.AlikeAll ps :=
  ⟨fun x hx y hy => alikeB_ok h x hx y hy, fun x hx z => by have q := List.all_eq_true.mp f x hx; rw [z] at q; cases q⟩
theorem reads_flat {h : Heap} {v : Value} {p : PyData} {as : List Addr} (r : Reads h v p as) (f : isFlatK p = true) : ∃ x, RelV x v ∧ ∀ H, Rp c H x (ofPy p) := by
  cases p with
  | bool b => cases r; exact ⟨.bl b, rfl, fun _ => .bl b⟩
  | int b => cases r; exact ⟨.int b, ⟨_, rfl⟩, fun _ => .int b⟩
  | str b => cases r; exact ⟨.str b, ⟨_, rfl⟩, fun _ => .str b⟩
  | _ => cases f
theorem minD_mem : ∀ (ps : List PyData) (p : PyData), W.minD p ps ∈ p :: ps
  | [], p => by simp [W.minD]
  | q :: ps, p => by
    show W.minD (if W.dataLt q p = true then q else p) ps ∈ _
    split
    · exact List.mem_cons_of_mem _ (minD_mem ps q)
    · rcases List.mem_cons.mp (minD_mem ps p) with e | e
      · rw [e]; exact List.mem_cons_self ..
      · exact List.mem_cons_of_mem _ (List.mem_cons_of_mem _ e)
theorem maxD_mem : ∀ (ps : List PyData) (p : PyData), W.maxD p ps ∈ p :: ps
  | [], p => by simp [W.maxD]
  | q :: ps, p => by
    show W.maxD (if W.dataLt p q = true then q else p) ps ∈ _
    split
    · exact List.mem_cons_of_mem _ (maxD_mem ps q)
    · rcases List.mem_cons.mp (maxD_mem ps p) with e | e
      · rw [e]; exact List.mem_cons_self ..
      · exact List.mem_cons_of_mem _ (List.mem_cons_of_mem _ e)
theorem mm_run (xc : XC c N sc n X) (I : Inv X pins σ H s) {a : Addr} {vs : List V} {ds : List D} {p : PyData} {ps : List PyData} (ha : Rd H a (.lst vs) ∨ SqT c.K H a vs) (t : RpL c H vs ds) (e : pyL ds = some (p :: ps)) (hal : alikeB (p :: ps) = true) (hf : (p :: ps).all isFlatK = true) {Q : VK} :
    ((∀ z H', Res c H z (.d (ofPy (W.minD p ps))) H' → Q z H') → wpAny (model X.prog X.w) X.A (call (.builtin "min") [.ref a]) (EP X pins σ Q) X.xe s) ∧
    ((∀ z H', Res c H z (.d (ofPy (W.maxD p ps))) H' → Q z H') → wpAny (model X.prog X.w) X.A (call (.builtin "max") [.ref a]) (EP X pins σ Q) X.xe s) := by
  obtain ⟨em, hp⟩ := pyL_map e
  have hu : X.A.units + 1 + PyData.depthAll (p :: ps) < cLine := by rw [flat_depth hf]; have := xc.units; omega
  have al := alikeAll_ok hal hf
  have hh := I.ok.hd xc.calm
  have hl : ∃ its : List Value, Vals vs its ∧ (s.heap.IsList a its.toArray ∨ s.heap.IsTuple a its.toArray) := by
    rcases ha with ha | ha
    · obtain ⟨_, its, k, r, _, e⟩ := Rd.lst I ha
      exact ⟨its, r, .inl ⟨_, e, rfl, k, rfl⟩⟩
    · obtain ⟨its, r, p, _⟩ := I.tuple (by rw [xc.K]; exact ha)
      exact ⟨its, r, .inr p⟩
  obtain ⟨its, r, hl⟩ := hl
  obtain ⟨as, hr⟩ := Dp.readsAll I (p :: ps) vs its (by rw [xc.K]; exact t.dp e) r
  have hr : ReadsAll s.heap its.toArray.toList (p :: ps) as := by simpa using hr
  have fin : ∀ (m : PyData), m ∈ p :: ps → (∀ z H', Res c H z (.d (ofPy m)) H' → Q z H') → ∀ (i : Nat) v h' tk bs, its.toArray[i]? = some v → Reads h' v m bs → (∀ b o, s.heap.get? b = some o → h'.get? b = some o) → EP X pins σ Q v { s with heap := h', toks := tk } := fun m hm q i v h' tk bs _ rd k => by
    obtain ⟨x, rx, px⟩ := reads_flat (c := c) rd (List.all_eq_true.mp hf m hm)
    exact ⟨x, H, I.kept k, rx, q _ _ (Res.same (px H))⟩
  refine ⟨fun q => ?_, fun q => ?_⟩
  · rcases hl with hl | hl
    · exact W.min_list_data hh hl hr al hu (fin _ (minD_mem ps p) q)
    · exact W.min_tuple_data hh hl hr al hu (fin _ (minD_mem ps p) q)
  · rcases hl with hl | hl
    · exact W.max_list_data hh hl hr al hu (fin _ (maxD_mem ps p) q)
    · exact W.max_tuple_data hh hl hr al hu (fin _ (maxD_mem ps p) q)
theorem isKeys_rp : ∀ {kv : List (List Key × V)} {bs : List Addr} {ks : List (List Key × D)}, IsKeys H kv bs → kv.map (·.1) = ks.map (·.1) → RpL c H (bs.map V.ref) (ks.map fun p => .tup (p.1.map kD))
  | _, _, ks, .nil, e => by
    cases ks with
    | nil => exact .nil
    | cons _ _ => simp at e
  | _, _, ks, .cons h t, e => by
    cases ks with
    | nil => simp at e
    | cons k ks =>
      rw [List.map_cons, List.map_cons] at e
      obtain ⟨e1, e2⟩ := List.cons.inj e
      exact .cons (.tup (by rw [h, e1]) RpL.keys) (isKeys_rp t e2)
theorem mapfst_eq {κ α β : Type} (f : κ → V) : ∀ {a : List (κ × α)} {b : List (κ × β)}, a.map (·.1) = b.map (·.1) → a.map (fun p => f p.1) = b.map fun p => f p.1
  | [], [], _ => rfl
  | [], _ :: _, e => by simp at e
  | _ :: _, [], e => by simp at e
  | x :: a, y :: b, e => by
    rw [List.map_cons, List.map_cons] at e
    obtain ⟨e1, e2⟩ := List.cons.inj e
    rw [List.map_cons, List.map_cons, e1, mapfst_eq f e2]
theorem call_blt (xc : XC c N sc n X) (b : Bl) (hb : ∀ t, b ≠ .isi t) : CallS c X (blV b) (blt b) := by
  intro pins s σ H xs us Q I rx q
  obtain ⟨ds, r, vx, e, q⟩ := q
  unfold blt at e
  split at e
  · -- len
    obtain ⟨x, rfl, v⟩ := vx.one
    obtain ⟨u, rfl, ru⟩ := vals1 rx
    split at e
    · split at e
      · cases e
        rename_i hz
        have ex := v.str
        subst ex
        exact call_len pins s σ H _ _ Q I (.cons ru .nil) ⟨_, _, rfl, ⟨by rw [← sl16]; exact hz, rfl⟩, q _ _ (Res.same (.int _))⟩
      · cases e
    · cases e
      obtain ⟨a, vs, rfl, ha, t⟩ := v.lst
      exact call_len pins s σ H _ _ Q I (.cons ru .nil) ⟨_, _, rfl, .inl ⟨vs, .inl ha, t.length.symm⟩, q _ _ (Res.same (.int _))⟩
    · cases e
      obtain ⟨a, vs, rfl, ha, t⟩ := v.tup
      exact call_len pins s σ H _ _ Q I (.cons ru .nil) ⟨_, _, rfl, .inr ⟨vs, SqT.of ha, t.length.symm⟩, q _ _ (Res.same (.int _))⟩
    · cases e
      obtain ⟨a, vs, rfl, ha, t⟩ := v.tk
      exact call_len pins s σ H _ _ Q I (.cons ru .nil) ⟨_, _, rfl, .inr ⟨vs, by rw [xc.K]; exact ha.sq _, t.length.symm⟩, q _ _ (Res.same (.int _))⟩
    · cases e
      obtain ⟨a, kv, rfl, ha, h1, t⟩ := v.dk
      cases (show u = Value.ref a from ru)
      refine d_len I ha fun tk s' I' => ⟨.int kv.length, H, I', ⟨tk, rfl⟩, q _ _ (Res.same ?_)⟩
      have el := congrArg List.length h1
      rw [List.length_map, List.length_map] at el
      rw [el]
      exact .int _
    · cases e
      obtain ⟨a, kv, rfl, ha, h1, t⟩ := v.dt
      cases (show u = Value.ref a from ru)
      obtain ⟨z, hd, ys, rel, dd⟩ := dt_rd I.hok ha
      have hl : kv.length = ys.length := Paired.length rel
      refine call_len_dictH hd dd (by rw [← hl]; rw [sizeLine_eq] at z; omega) ?_
      refine ⟨.int kv.length, H, I.tok _, ⟨_, by rw [hl]⟩, q _ _ (Res.same ?_)⟩
      have el := congrArg List.length h1
      rw [List.length_map, List.length_map] at el
      rw [el]
      exact .int _
    · cases e
  · cases e
    obtain ⟨x, rfl, v⟩ := vx.one
    have ex := v.int
    subst ex
    exact call_abs pins s σ H _ us Q I rx ⟨_, rfl, q _ _ (Res.same (.int _))⟩
  · cases e
    obtain ⟨x, rfl, v⟩ := vx.one
    have ex := v.int
    subst ex
    exact call_int1 pins s σ H _ us Q I rx (.inl ⟨_, rfl, q _ _ (Res.same (.int _))⟩)
  · cases e
    obtain ⟨x, rfl, v⟩ := vx.one
    have ex := v.bl
    subst ex
    rename_i b0
    refine call_int1 pins s σ H _ us Q I rx (.inr ⟨b0, rfl, q _ _ (Res.same ?_)⟩)
    cases b0 <;> exact .int _
  · split at e
    · cases e
      rename_i hz
      obtain ⟨x, rfl, v⟩ := vx.one
      have ex := v.int
      subst ex
      exact call_str_int pins s σ H _ us Q I rx ⟨_, rfl, hz, q _ _ (Res.same (.str _))⟩
    · cases e
  · cases e
    obtain ⟨x, y, rfl, v, v2⟩ := vx.two
    have ex := v.int
    have ey := v2.int
    subst ex ey
    exact call_min2 xc.calm pins s σ H _ us Q I rx ⟨_, _, rfl, q _ _ (Res.same (.int _))⟩
  · -- min of a row
    obtain ⟨x, rfl, v⟩ := vx.one
    split at e
    · rename_i xs es
      split at e
      · rename_i p ps ep
        split at e
        · rename_i hh
          cases e
          obtain ⟨a, vs, rfl, ha, t⟩ := v.seq es
          cases Vals.ref1 rx
          exact (mm_run xc I ha t ep hh.1 hh.2).1 q
        · cases e
      · cases e
    · cases e
  · cases e
    obtain ⟨x, y, rfl, v, v2⟩ := vx.two
    have ex := v.int
    have ey := v2.int
    subst ex ey
    exact call_max2 xc.calm pins s σ H _ us Q I rx ⟨_, _, rfl, q _ _ (Res.same (.int _))⟩
  · obtain ⟨x, rfl, v⟩ := vx.one
    split at e
    · rename_i xs es
      split at e
      · rename_i p ps ep
        split at e
        · rename_i hh
          cases e
          obtain ⟨a, vs, rfl, ha, t⟩ := v.seq es
          cases Vals.ref1 rx
          exact (mm_run xc I ha t ep hh.1 hh.2).2 q
        · cases e
      · cases e
    · cases e
  · obtain ⟨x, rfl, v⟩ := vx.one
    obtain ⟨a, vs, rfl, ha, t⟩ := v.lst
    rename_i xs
    cases ei : intsOf xs with
    | none => rw [ei] at e; cases e
    | some is =>
      rw [ei] at e
      cases e
      have ev := t.intsV ei
      subst ev
      exact cr_sum xc.calm pins s σ H _ us Q I rx ⟨a, is, rfl, .inl ha, q _ _ (Res.same (.int _))⟩
  · obtain ⟨x, rfl, v⟩ := vx.one
    obtain ⟨a, vs, rfl, ha, t⟩ := v.lst
    rename_i xs
    cases ei : blsOf xs with
    | none => rw [ei] at e; cases e
    | some is =>
      rw [ei] at e
      cases e
      have ev := t.blsV ei
      subst ev
      exact cr_all xc.calm pins s σ H _ us Q I rx ⟨a, is, rfl, .inl ha, q _ _ (Res.same (.bl _))⟩
  · obtain ⟨x, rfl, v⟩ := vx.one
    obtain ⟨a, vs, rfl, ha, t⟩ := v.lst
    rename_i xs
    cases ei : blsOf xs with
    | none => rw [ei] at e; cases e
    | some is =>
      rw [ei] at e
      cases e
      have ev := t.blsV ei
      subst ev
      exact cr_any xc.calm pins s σ H _ us Q I rx ⟨a, is, rfl, .inl ha, q _ _ (Res.same (.bl _))⟩
  · obtain ⟨x, rfl, v⟩ := vx.one
    obtain ⟨a, vs, rfl, ha, t⟩ := v.lst
    rename_i xs
    cases ei : sortL xs with
    | none => rw [ei] at e; cases e
    | some ys =>
      rw [ei] at e
      cases e
      cases Vals.ref1 rx
      exact sorted_run xc I (.inl ha) t ei q
  · obtain ⟨x, rfl, v⟩ := vx.one
    obtain ⟨a, vs, rfl, ha, t⟩ := v.tup
    rename_i xs
    cases ei : sortL xs with
    | none => rw [ei] at e; cases e
    | some ys =>
      rw [ei] at e
      cases e
      cases Vals.ref1 rx
      exact sorted_run xc I (.inr (SqT.of ha)) t ei q
  · -- list
    obtain ⟨x, rfl, v⟩ := vx.one
    rename_i d0
    cases ei : itemsOf d0 with
    | none => rw [ei] at e; cases e
    | some ys =>
      rw [ei] at e
      cases e
      cases d0 with
      | lst xs =>
        cases ei
        obtain ⟨a, vs, rfl, ha, t⟩ := v.lst
        exact call_list_of pins s σ H _ us Q I rx ⟨a, vs, rfl, .inl (.inl ha), fun l hl => q _ _ (Res.upd hl ⟨_, upd_same, t.pers (grown hl)⟩)⟩
      | tup xs =>
        cases ei
        obtain ⟨a, vs, rfl, ha, t⟩ := v.tup
        exact call_list_of pins s σ H _ us Q I rx ⟨a, vs, rfl, .inr (SqT.of ha), fun l hl => q _ _ (Res.upd hl ⟨_, upd_same, t.pers (grown hl)⟩)⟩
      | tk xs =>
        cases ei
        obtain ⟨a, vs, rfl, ha, t⟩ := v.tk
        exact call_list_of pins s σ H _ us Q I rx ⟨a, vs, rfl, .inr (by rw [xc.K]; exact ha.sq _), fun l hl => q _ _ (Res.upd hl ⟨_, upd_same, t.pers (grown hl)⟩)⟩
      | dk ks =>
        cases ei
        obtain ⟨a, kv, rfl, ha, h1, t⟩ := v.dk
        refine call_listD xc.calm pins s σ H _ us Q I rx ⟨a, kv, rfl, ha, fun p hp => q _ _ (Res.upd hp ⟨_, upd_same, ?_⟩)⟩
        rw [mapfst_eq kV h1]
        have e1 : (ks.map fun p => kV p.1) = (ks.map (·.1)).map kV := by rw [List.map_map]; rfl
        have e2 : (ks.map fun p => kD p.1) = (ks.map (·.1)).map kD := by rw [List.map_map]; rfl
        rw [e1, e2]
        exact RpL.keys
      | dt ks =>
        cases ei
        obtain ⟨a, kv, rfl, ha, h1, t⟩ := v.dt
        refine call_list_dT xc.calm pins s σ H _ us Q I rx ⟨a, kv, rfl, ha, fun p bs hp hk => q _ _ (Res.upd hp ⟨_, upd_same, ?_⟩)⟩
        exact (isKeys_rp hk h1).pers (grown hp)
      | _ => cases ei
  · cases e
    obtain ⟨x, rfl, v⟩ := vx.one
    obtain ⟨a, vs, rfl, ha, t⟩ := v.lst
    exact call_tuple_of pins s σ H _ us Q I rx ⟨a, vs, rfl, .inl ⟨.inl ha, fun l hl => q _ _ (Res.upd hl (.tup upd_same (t.pers (grown hl))))⟩⟩
  · cases e
    obtain ⟨x, rfl, v⟩ := vx.one
    obtain ⟨a, vs, rfl, ha, t⟩ := v.tup
    exact call_tuple_of pins s σ H _ us Q I rx ⟨a, vs, rfl, .inr ⟨SqT.of ha, q _ _ (Res.same (.tup ha t))⟩⟩
  · split at e
    · cases e
      rename_i hz
      obtain ⟨x, y, rfl, v, v2⟩ := vx.two
      have ex := v.int
      have ey := v2.int
      subst ex ey
      exact call_divmod pins s σ H _ us Q I rx ⟨_, _, rfl, hz, fun p hp => q _ _ (Res.upd hp (.tup upd_same (.cons (.int _) (.cons (.int _) .nil))))⟩
    · cases e
  · exact absurd rfl (hb _)
  · cases e
end
end Fl
set_option Elab.async false
set_option linter.all false
set_option maxRecDepth 100000
set_option maxHeartbeats 4000000
/-! Layer F, part 7: expressions. -/
namespace Fl
open PySem PySem.Spec PyProof.Rows L2 NdefX LamX
section
variable {c : SC} {b : Bs} {W : WX} {σ : L2.St} {α β γ δ : Type} {rep : Hp → Hp → δ → γ → Prop} {rep1 : Hp → Hp → β → α → Prop} {ρ : Env} {H : Hp} {Q : δ → Hp → Prop}
theorem Post.of_bind {o : R α} {g : α → Env → R γ} {G : β → Hp → Prop} (hr : ∀ ρ1 H1, Stp σ ρ H ρ1 H1 → ∀ H' x a, rep H1 H' x a → rep H H' x a) (h : Post c b W σ rep ρ H (o.bind g) Q)
    (k : ∀ a ρ1 x H1, ER c b σ ρ1 H1 → Stp σ ρ H ρ1 H1 → rep1 H H1 x a → Post c b W σ rep ρ1 H1 (g a ρ1) Q → G x H1) : Post c b W σ rep1 ρ H o G := by
  cases o with
  | ok a ρ1 => exact fun x H1 r1 s1 v1 => k a ρ1 x H1 r1 s1 v1 (Post.back s1 (hr ρ1 H1 s1) h)
  | ex e ρ1 => exact h
  | bad => exact h
theorem rvB : ∀ ρ1 H1, Stp σ ρ H ρ1 H1 → ∀ H' x a, Rv c σ H1 H' x a → Rv c σ H H' x a := fun ρ1 H1 s H' x a h => h.back s
theorem rvLB : ∀ ρ1 H1, Stp σ ρ H ρ1 H1 → ∀ H' x a, RvL c σ H1 H' x a → RvL c σ H H' x a := fun ρ1 H1 s H' x a h => h.back s
theorem Post.opt {rep : Hp → Hp → δ → γ → Prop} {v : Option γ} {ρ : Env} {ρ0 : Env} {H0 : Hp} (h : Post c b W σ rep ρ0 H0 (R.opt v ρ) Q) : ∃ a, v = some a ∧ Post c b W σ rep ρ0 H0 (.ok a ρ) Q := by
  cases v with
  | none => exact h.elim
  | some a => exact ⟨a, rfl, h⟩
theorem bind2 {x y : Option D} {g : D → D → Option RV} {r : RV} (h : (x.bind fun a => y.bind fun e => g a e) = some r) : ∃ a e, x = some a ∧ y = some e ∧ g a e = some r := by
  cases x with
  | none => cases h
  | some a => cases y with
    | none => cases h
    | some e => exact ⟨a, e, rfl, rfl, h⟩
theorem bind1 {α β : Type} {x : Option α} {g : α → Option β} {r : β} (h : x.bind g = some r) : ∃ a, x = some a ∧ g a = some r := by
  cases x with
  | none => cases h
  | some a => exact ⟨a, rfl, h⟩
end
/-- an expression's meaning: as a value, as a test -/
structure FD (c : SC) (b : Bs) (W : WX) (X : Cx) (e : Expr) (d : Den) : Prop where
  v : PE X e (tF c b W d.v)
  t : PT X e (tFB c b W d.t)
/-- a test is the truth of the value -/
def Plain (X : Cx) (e : Expr) : Prop := ∀ whole, isTrue e X.env whole = (do let v ← whole; standAt e.pos; holding [v] (truthy v))
section
variable {X : Cx} {c : SC} {b : Bs} {W : WX} {N : List Str} {sc : Scope} {n : Nat}
theorem fd_plain (xc : XC c N sc n X) {e : Expr} {f : Env → R RV} (h : PE X e (tF c b W f)) (hp : Plain X e) : FD c b W X e (vDen f) := by
  refine ⟨h, PT.imp (pt_truth h hp) fun σ H Q hq => ?_⟩
  obtain ⟨ρ, r, hq⟩ := hq
  refine ⟨ρ, r, Post.of_bind (rep1 := Rv c σ) (fun _ _ _ _ _ _ z => z) hq fun q ρ1 x H1 r1 s1 v1 p1 => ?_⟩
  obtain ⟨k, ek, p1⟩ := p1.opt
  obtain ⟨d, e1, e2⟩ := bind1 ek
  exact ⟨k, truth_ok xc (view_ok r1 v1 e1) e2, p1 k H1 r1 (.refl ..) rfl⟩
/-! ### constants, names -/
theorem fe_c {e : Expr} {v : V} {d : D} (h : PE X e (tC v)) (hr : ∀ H, Rp c H v d) : PE X e (tF c b W fun ρ => .ok (.d d) ρ) := PE.imp h fun σ H Q hq => by
  obtain ⟨ρ, r, hq⟩ := hq
  exact hq v H r (.refl ..) (hr H)
theorem fe_var (xc : XC c N sc n X) {i : Nat} {x : Str} {pos : Pos} (hN : N[i]? = some x) (hv : Vis sc x) (hd : (x == ("__debug__" : Str)) = false) (hcd : (x == ("__classdict__" : Str)) = false) (P : PI) (call : Call) :
    PE X (.Name x pos) (tF c b W (den P call (.v i)).v) := PE.imp (pe_var (i := i) (by rw [xc.nm]; exact hN) (by rw [xc.sc]; exact hv) hd hcd) fun σ H Q hq => by
  obtain ⟨ρ, r, hq⟩ := hq
  have hq : Post c b W σ (Rv c σ) ρ H (match ρ[i]? with
    | some (some (.d v)) => .ok (.d v) ρ
    | some (some (.m _ _)) => .ok (.sl i) ρ
    | _ => .bad) Q := hq
  split at hq
  · rename_i v e
    obtain ⟨x, e1, q⟩ := r.slot i _ e
    exact ⟨x, e1, hq x H r (.refl ..) q⟩
  · rename_i w o e
    obtain ⟨x, e1, q⟩ := r.slot i _ e
    exact ⟨x, e1, hq x H r (.refl ..) e1⟩
  · exact hq.elim
/-! ### operators -/
theorem fe_op2 {e : Expr} {fa fb : Env → R RV} {g : D → D → Option RV} (h : PE X e (tOp (fun x y H Q => ∃ dx dy r, Vw c H x dx ∧ Vw c H y dy ∧ g dx dy = some r ∧ ∀ z H', Res c H z r H' → Q z H') (tF c b W fa) (tF c b W fb))) :
    PE X e (tF c b W fun ρ => (fa ρ).bind fun r ρ1 => (fb ρ1).bind fun q ρ2 => R.opt ((view ρ2 r).bind fun x => (view ρ2 q).bind fun y => g x y) ρ2) := PE.imp h fun σ H Q hq => by
  obtain ⟨ρ, r, hq⟩ := hq
  refine ⟨ρ, r, Post.of_bind (rep1 := Rv c σ) rvB hq fun ra ρ1 x H1 r1 s1 v1 p1 => ?_⟩
  refine ⟨ρ1, r1, Post.of_bind (rep1 := Rv c σ) rvB p1 fun rb ρ2 y H2 r2 s2 v2 p2 => ?_⟩
  obtain ⟨rr, e0, p2⟩ := p2.opt
  obtain ⟨dx, dy, e1, e2, e3⟩ := bind2 e0
  exact ⟨dx, dy, rr, view_ok r2 (Rv.step r r1 s1 s2 v1) e1, view_ok r2 v2 e2, e3, fun z H' res => Res.post (.refl ..) r2 p2 res⟩
theorem fe_op1 {e : Expr} {fa : Env → R RV} {g : D → Option RV} (h : PE X e (tUn (fun x H Q => ∃ dx r, Vw c H x dx ∧ g dx = some r ∧ ∀ z H', Res c H z r H' → Q z H') (tF c b W fa))) :
    PE X e (tF c b W fun ρ => (fa ρ).bind fun r ρ1 => R.opt ((view ρ1 r).bind g) ρ1) := PE.imp h fun σ H Q hq => by
  obtain ⟨ρ, r, hq⟩ := hq
  refine ⟨ρ, r, Post.of_bind (rep1 := Rv c σ) rvB hq fun ra ρ1 x H1 r1 s1 v1 p1 => ?_⟩
  obtain ⟨rr, e0, p1⟩ := p1.opt
  obtain ⟨dx, e1, e2⟩ := bind1 e0
  exact ⟨dx, rr, view_ok r1 v1 e1, e2, fun z H' res => Res.post (.refl ..) r1 p1 res⟩
theorem fd_bin (xc : XC c N sc n X) {ea eb : Expr} {da db : Den} {op : Operator} {pos : Pos} (ha : FD c b W X ea da) (hb : FD c b W X eb db) : FD c b W X (.BinOp ea op eb pos) (op2 da db (bins op)) :=
  fd_plain xc (fe_op2 (pe_op (ops_bin xc op) ha.v hb.v)) fun _ => rfl
theorem fd_un (xc : XC c N sc n X) {ea : Expr} {da : Den} {op : UnaryOp} {pos : Pos} (ho : op ≠ .Not) (ha : FD c b W X ea da) : FD c b W X (.UnaryOp op ea pos) (op1 da (uns op)) := by
  refine fd_plain xc (fe_op1 (pe_un (ops_un xc op) ha.v)) fun _ => ?_
  cases op with
  | Not => exact absurd rfl ho
  | _ => rfl
theorem fd_ix (xc : XC c N sc n X) {ea eb : Expr} {da db : Den} {pos : Pos} (ha : FD c b W X ea da) (hb : FD c b W X eb db) (hs : PlainIx eb) : FD c b W X (.Subscript ea eb pos) (op2 da db fun x y => (ixs x y).map .d) := by
  refine fd_plain xc (fe_op2 (PE.imp (pe_ix (ixs_ok xc) ha.v hb.v hs) fun σ H Q hq => ?_)) fun _ => rfl
  have mono : ∀ {f : Env → R RV} {σ H} {Q Q' : VK}, (∀ x H', Q x H' → Q' x H') → tF c b W f σ H Q → tF c b W f σ H Q' := fun hm ⟨ρ, r, p⟩ => ⟨ρ, r, p.mono hm⟩
  refine mono (fun x H1 h1 => mono (fun y H2 h2 => ?_) h1) hq
  obtain ⟨dx, dy, r, v1, v2, e, q⟩ := h2
  cases e0 : ixs dx dy with
  | none => rw [e0] at e; cases e
  | some d => rw [e0] at e; cases e; exact ⟨dx, dy, d, v1, v2, e0, q⟩
/-! ### and, or, not, if -/
theorem fe_and {ea eb : Expr} {rest : List Expr} {da db : Den} {pos : Pos} (ha : FD c b W X ea da) (hb : PE X (.BoolOp .And (eb :: rest) pos) (tF c b W db.v)) : PE X (.BoolOp .And (ea :: eb :: rest) pos) (tF c b W fun ρ => (da.v ρ).bind fun r ρ1 => match asBl r with
      | some true => db.v ρ1
      | some false => .ok (.d (.bl false)) ρ1
      | none => .bad) := PE.imp (pe_and ha.v hb) fun σ H Q hq => by
  obtain ⟨ρ, r, hq⟩ := hq
  refine ⟨ρ, r, Post.of_bind (rep1 := Rv c σ) rvB hq fun ra ρ1 x H1 r1 s1 v1 p1 => ?_⟩
  split at p1
  · rename_i e
    have er : ra = .d (.bl true) := by
      unfold asBl at e
      split at e
      · cases e; rfl
      · cases e
    subst er
    cases v1
    exact ⟨true, rfl, ρ1, r1, p1⟩
  · rename_i e
    have er : ra = .d (.bl false) := by
      unfold asBl at e
      split at e
      · cases e; rfl
      · cases e
    subst er
    cases v1
    exact ⟨false, rfl, p1 _ H1 r1 (.refl ..) (.bl false)⟩
  · exact p1.elim
theorem fe_or {ea eb : Expr} {rest : List Expr} {da db : Den} {pos : Pos} (ha : FD c b W X ea da) (hb : PE X (.BoolOp .Or (eb :: rest) pos) (tF c b W db.v)) : PE X (.BoolOp .Or (ea :: eb :: rest) pos) (tF c b W fun ρ => (da.v ρ).bind fun r ρ1 => match asBl r with
      | some false => db.v ρ1
      | some true => .ok (.d (.bl true)) ρ1
      | none => .bad) := PE.imp (pe_or ha.v hb) fun σ H Q hq => by
  obtain ⟨ρ, r, hq⟩ := hq
  refine ⟨ρ, r, Post.of_bind (rep1 := Rv c σ) rvB hq fun ra ρ1 x H1 r1 s1 v1 p1 => ?_⟩
  split at p1
  · rename_i e
    have er : ra = .d (.bl false) := by
      unfold asBl at e
      split at e
      · cases e; rfl
      · cases e
    subst er
    cases v1
    exact ⟨false, rfl, ρ1, r1, p1⟩
  · rename_i e
    have er : ra = .d (.bl true) := by
      unfold asBl at e
      split at e
      · cases e; rfl
      · cases e
    subst er
    cases v1
    exact ⟨true, rfl, p1 _ H1 r1 (.refl ..) (.bl true)⟩
  · exact p1.elim
theorem ft_and {ea eb : Expr} {rest : List Expr} {da db : Den} {pos : Pos} (ha : FD c b W X ea da) (hb : PW X (.BoolOp .And (eb :: rest) pos) (tFB c b W db.t)) : PW X (.BoolOp .And (ea :: eb :: rest) pos) (tFB c b W fun ρ => (da.t ρ).bind fun x ρ1 => match x with
      | true => db.t ρ1
      | false => .ok false ρ1) := by
  refine ⟨fun wh pins s σ H Q I hq => (pw_and ha.t hb).run wh pins s σ H Q I ?_⟩
  obtain ⟨ρ, r, hq⟩ := hq
  refine ⟨ρ, r, Post.of_bind (rep1 := fun _ _ (x a : Bool) => x = a) (fun _ _ _ _ _ _ z => z) hq fun k ρ1 x H1 r1 s1 v1 p1 => ?_⟩
  subst v1
  cases x with
  | true => rw [if_pos rfl]; exact ⟨ρ1, r1, p1⟩
  | false => rw [if_neg Bool.false_ne_true]; exact p1 _ H1 r1 (.refl ..) rfl
theorem ft_or {ea eb : Expr} {rest : List Expr} {da db : Den} {pos : Pos} (ha : FD c b W X ea da) (hb : PW X (.BoolOp .Or (eb :: rest) pos) (tFB c b W db.t)) : PW X (.BoolOp .Or (ea :: eb :: rest) pos) (tFB c b W fun ρ => (da.t ρ).bind fun x ρ1 => match x with
      | false => db.t ρ1
      | true => .ok true ρ1) := by
  refine ⟨fun wh pins s σ H Q I hq => (pw_or ha.t hb).run wh pins s σ H Q I ?_⟩
  obtain ⟨ρ, r, hq⟩ := hq
  refine ⟨ρ, r, Post.of_bind (rep1 := fun _ _ (x a : Bool) => x = a) (fun _ _ _ _ _ _ z => z) hq fun k ρ1 x H1 r1 s1 v1 p1 => ?_⟩
  subst v1
  cases x with
  | true => rw [if_pos rfl]; exact p1 _ H1 r1 (.refl ..) rfl
  | false => rw [if_neg Bool.false_ne_true]; exact ⟨ρ1, r1, p1⟩
theorem fd_not {ea : Expr} {da : Den} {pos : Pos} (ha : FD c b W X ea da) : FD c b W X (.UnaryOp .Not ea pos) { vDen (fun ρ => (da.v ρ).bind fun r ρ1 => match asBl r with
      | some x => .ok (.d (.bl (!x))) ρ1
      | none => .bad) with
    t := fun ρ => (da.t ρ).bind fun x ρ1 => .ok (!x) ρ1 } := by
  refine ⟨PE.imp (pe_not ha.v) fun σ H Q hq => ?_, PT.imp (pt_not ha.t) fun σ H Q hq => ?_⟩
  · obtain ⟨ρ, r, hq⟩ := hq
    refine ⟨ρ, r, Post.of_bind (rep1 := Rv c σ) rvB hq fun ra ρ1 x H1 r1 s1 v1 p1 => ?_⟩
    split at p1
    · rename_i x' e
      have er : ra = .d (.bl x') := by
        unfold asBl at e
        split at e
        · cases e; rfl
        · cases e
      subst er
      cases v1
      exact ⟨x', rfl, p1 _ H1 r1 (.refl ..) (.bl _)⟩
    · exact p1.elim
  · obtain ⟨ρ, r, hq⟩ := hq
    refine ⟨ρ, r, Post.of_bind (rep1 := fun _ _ (x a : Bool) => x = a) (fun _ _ _ _ _ _ z => z) hq fun k ρ1 x H1 r1 s1 v1 p1 => ?_⟩
    subst v1
    exact p1 _ H1 r1 (.refl ..) rfl
theorem pt_ifExp {ec ea eb : Expr} {tc ta tb : TT} {pos : Pos} (hc : PT X ec tc) (ha : PT X ea ta) (hb : PT X eb tb) : PT X (.IfExp ec ea eb pos) (fun σ H Q => tc σ H fun k H1 => if k = true then ta σ H1 Q else tb σ H1 Q) := by
  refine ⟨fun pins s σ H Q I h => ?_⟩
  show wpAny _ _ (do if ← isTrue ec X.env (eval ec X.env) then isTrue ea X.env (eval ea X.env) else isTrue eb X.env (eval eb X.env)) _ _ s
  refine wpAny_bind (thn (hc.run pins s σ H _ I h) fun k s1 ⟨H1, I1, q1⟩ => ?_)
  cases k with
  | true => exact ha.run pins s1 σ H1 Q I1 q1
  | false => exact hb.run pins s1 σ H1 Q I1 q1
theorem fd_ite {ec ea eb : Expr} {dc da db : Den} {pos : Pos} (hc : FD c b W X ec dc) (ha : FD c b W X ea da) (hb : FD c b W X eb db) : FD c b W X (.IfExp ec ea eb pos) { vDen (fun ρ => (dc.t ρ).bind fun x ρ1 => match x with
      | true => da.v ρ1
      | false => db.v ρ1) with
    t := fun ρ => (dc.t ρ).bind fun x ρ1 => match x with
      | true => da.t ρ1
      | false => db.t ρ1 } := by
  refine ⟨PE.imp (pe_ifExp hc.t ha.v hb.v) fun σ H Q hq => ?_, PT.imp (pt_ifExp hc.t ha.t hb.t) fun σ H Q hq => ?_⟩
  · obtain ⟨ρ, r, hq⟩ := hq
    refine ⟨ρ, r, Post.of_bind (rep1 := fun _ _ (x a : Bool) => x = a) rvB hq fun k ρ1 x H1 r1 s1 v1 p1 => ?_⟩
    subst v1
    cases x with
    | true => rw [if_pos rfl]; exact ⟨ρ1, r1, p1⟩
    | false => rw [if_neg Bool.false_ne_true]; exact ⟨ρ1, r1, p1⟩
  · obtain ⟨ρ, r, hq⟩ := hq
    refine ⟨ρ, r, Post.of_bind (rep1 := fun _ _ (x a : Bool) => x = a) (fun _ _ _ _ _ _ z => z) hq fun k ρ1 x H1 r1 s1 v1 p1 => ?_⟩
    subst v1
    cases x with
    | true => rw [if_pos rfl]; exact ⟨ρ1, r1, p1⟩
    | false => rw [if_neg Bool.false_ne_true]; exact ⟨ρ1, r1, p1⟩
/-! ### lists of expressions, displays -/
theorem fa_nil : PA X [] (tFL c b W fun ρ => .ok [] ρ) := PA.imp pa_nil fun σ H Q hq => by
  obtain ⟨ρ, r, hq⟩ := hq
  exact hq [] H r (.refl ..) .nil
theorem fa_cons {e : Expr} {es : List Expr} {f : Env → R RV} {g : Env → R (List RV)} (he : PE X e (tF c b W f)) (hs : PA X es (tFL c b W g)) (h0 : starEach (e :: es) X.env = (false, eval e X.env) :: starEach es X.env) :
    PA X (e :: es) (tFL c b W fun ρ => (f ρ).bind fun x ρ1 => (g ρ1).bind fun xs ρ2 => .ok (x :: xs) ρ2) := PA.imp (pa_cons he hs h0) fun σ H Q hq => by
  obtain ⟨ρ, r, hq⟩ := hq
  have hq : Post c b W σ (RvL c σ) ρ H ((f ρ).bind fun x ρ1 => (g ρ1).bind fun xs ρ2 => .ok (x :: xs) ρ2) Q := hq
  refine ⟨ρ, r, ?_⟩
  cases ef : f ρ with
  | bad => rw [ef] at hq; exact hq
  | ex x ρ1 => rw [ef] at hq; exact hq
  | ok ra ρ1 =>
    rw [ef] at hq
    have hq : Post c b W σ (RvL c σ) ρ H ((g ρ1).bind fun xs ρ2 => .ok (ra :: xs) ρ2) Q := hq
    intro x H1 r1 s1 v1
    refine ⟨ρ1, r1, ?_⟩
    cases eg : g ρ1 with
    | bad => rw [eg] at hq; exact hq
    | ex e ρ2 =>
      rw [eg] at hq
      exact fun cls d H2 r2 s2 p2 => hq cls d H2 r2 (s1.trans s2) p2
    | ok rb ρ2 =>
      rw [eg] at hq
      intro y H2 r2 s2 v2
      refine hq (x :: y) H2 r2 (s1.trans s2) (.cons (Rv.step r r1 s1 s2 v1) (v2.back s1) ?_)
      intro o eo j o' ej ex
      subst eo
      obtain ⟨a, ea, m, _⟩ := v1
      obtain ⟨u, eu, _⟩ := m.mut
      subst ea
      obtain ⟨xq, e1, hv⟩ := v2.get ej
      rw [ex] at e1
      cases e1
      obtain ⟨a', ea', _, n'⟩ := hv
      cases ea'
      rw [eu] at n'
      cases n'
end
end Fl
set_option Elab.async false
set_option linter.all false
set_option maxRecDepth 100000
set_option maxHeartbeats 4000000
/-! Layer F, part 8: displays, comparisons, built-ins, methods. -/
namespace Fl
open PySem PySem.Spec PyProof.Rows L2 NdefX LamX
/-! ### the text's form -/
def notStar : Expr → Bool
  | .Starred _ _ => false
  | _ => true
theorem star_cons {e : Expr} {es : List Expr} {env : PySem.Env} (h : notStar e = true) : starEach (e :: es) env = (false, eval e env) :: starEach es env := by
  cases e <;> first | rfl | cases h
theorem star_plain {env : PySem.Env} : ∀ {es : List Expr}, es.all notStar = true → (starEach es env).any (·.1) = false
  | [], _ => rfl
  | e :: es, h => by
    rw [List.all_cons, Bool.and_eq_true] at h
    rw [star_cons h.1, List.any_cons, star_plain h.2]
    rfl
theorem backTo_plain {env : PySem.Env} {pos : Pos} {es : List Expr} (h : es.all notStar = true) : (backTo pos (starEach es env)).any (·.1) = false := by
  have e : ∀ (l : List (Bool × Sem Value)), (backTo pos l).any (·.1) = l.any (·.1) := fun l => by
    unfold backTo
    rw [List.any_map]
    rfl
  rw [e]
  exact star_plain h
theorem backTo_all {env : PySem.Env} {pos : Pos} {es : List Expr} (h : es.all notStar = true) : (backTo pos (starEach es env)).all (fun x => !x.1) = true := by
  have q := backTo_plain (env := env) (pos := pos) h
  rw [List.any_eq_false] at q
  rw [List.all_eq_true]
  intro x hx
  have := q x hx
  cases hb : x.1 with
  | true => exact absurd hb this
  | false => rfl
def okBase : Expr → Bool
  | .Call (.Name _ _) [] [] _ => false
  | _ => true
theorem base_ok {o : Expr} {f : Str} {env : PySem.Env} (h : okBase o = true) : attributeBase o f env (eval o env) = eval o env := by
  cases o with
  | Call fn as ks p =>
    cases fn with
    | Name x q => cases as with
      | nil => cases ks with
        | nil => cases h
        | cons _ _ => rfl
      | cons _ _ => rfl
    | _ => rfl
  | _ => rfl
def notSetD : Expr → Bool
  | .Set _ _ _ => false
  | _ => true
theorem noMarks {op : CmpOp} {e : Expr} (h : notSetD e = true) : behindInMarks op e = false := by
  cases e <;> first | rfl | cases h
section
variable {X : Cx} {c : SC} {b : Bs} {W : WX} {N : List Str} {sc : Scope} {n : Nat}
/-! ### as data -/
theorem fa_ds {es : List Expr} {f : Env → R (List RV)} (h : PA X es (tFL c b W f)) : PA X es (tFDs c b W fun ρ => (f ρ).bind toDs) := PA.ghost h fun σ H Q hq => by
  obtain ⟨ρ, r, hq⟩ := hq
  have hq : Post c b W σ (fun _ H' x d => RpL c H' x d) ρ H ((f ρ).bind toDs) Q := hq
  refine ⟨ρ, r, ?_⟩
  cases ef : f ρ with
  | bad => rw [ef] at hq; exact hq
  | ex x ρ1 => rw [ef] at hq; exact hq
  | ok rs ρ1 =>
    rw [ef] at hq
    intro x H1 r1 s1 v1 pins s I
    have hq : Post c b W σ (fun _ H' x d => RpL c H' x d) ρ H (toDs rs ρ1) Q := hq
    cases et : toDs rs ρ1 with
    | bad => rw [et] at hq; exact hq.elim
    | ex e ρ2 => exact absurd et toDs_noex
    | ok ds ρ2 =>
      rw [et] at hq
      obtain ⟨H2, I2, r2, s2, p2, _⟩ := ghostDs r I r1 s1 v1 et
      exact ⟨H2, I2, hq x H2 r2 s2 p2⟩
theorem fe_d {e : Expr} {f : Env → R RV} (h : PE X e (tF c b W f)) : PE X e (tFD c b W fun ρ => (f ρ).bind toD) := PE.ghost h fun σ H Q hq => by
  obtain ⟨ρ, r, hq⟩ := hq
  have hq : Post c b W σ (fun _ H' x d => Rp c H' x d) ρ H ((f ρ).bind toD) Q := hq
  refine ⟨ρ, r, ?_⟩
  cases ef : f ρ with
  | bad => rw [ef] at hq; exact hq
  | ex x ρ1 => rw [ef] at hq; exact hq
  | ok rs ρ1 =>
    rw [ef] at hq
    intro x H1 r1 s1 v1 pins s I
    have hq : Post c b W σ (fun _ H' x d => Rp c H' x d) ρ H (toD rs ρ1) Q := hq
    cases et : toD rs ρ1 with
    | bad => rw [et] at hq; exact hq.elim
    | ex e ρ2 => exact absurd et toD_noex
    | ok ds ρ2 =>
      rw [et] at hq
      obtain ⟨H2, I2, r2, s2, p2, _⟩ := ghostD I r r1 s1 v1 et
      exact ⟨H2, I2, hq x H2 r2 s2 p2⟩
theorem R.bind_ok {α β : Type} {o : R α} {f : α → Env → R β} {r : β} {ρ : Env} (h : o.bind f = .ok r ρ) : ∃ a ρ1, o = .ok a ρ1 ∧ f a ρ1 = .ok r ρ := by
  cases o with
  | ok a ρ1 => exact ⟨a, ρ1, rfl, h⟩
  | ex e ρ1 => cases h
  | bad => cases h
theorem R.opt_ok {α : Type} {o : Option α} {r : α} {ρ ρ' : Env} (h : R.opt o ρ = .ok r ρ') : o = some r ∧ ρ = ρ' := by
  cases o with
  | none => cases h
  | some a => cases h; exact ⟨rfl, rfl⟩
/-- binds, told apart -/
theorem R.bind_assoc {α β γ : Type} (o : R α) (f : α → Env → R β) (g : β → Env → R γ) : (o.bind f).bind g = o.bind fun a ρ => (f a ρ).bind g := by
  cases o <;> rfl
theorem fd_tup (xc : XC c N sc n X) {es : List Expr} {ctx : Nat} {pos : Pos} {d : Den} (h : PA X es (tFL c b W d.l)) : FD c b W X (.Tuple es ctx pos) (vDen fun ρ => (d.l ρ).bind fun rs ρ1 => (toDs rs ρ1).bind fun ds ρ2 => if ds.length ≤ SL then .ok (.d (.tup ds)) ρ2 else .bad) := by
  refine fd_plain xc (PE.imp (pe_tup (fa_ds h)) fun σ H Q hq => ?_) fun _ => rfl
  obtain ⟨ρ, r, hq⟩ := hq
  refine ⟨ρ, r, Post.of_bind (rep := Rv c σ) (Q := Q) (g := fun ds ρ2 => if ds.length ≤ SL then .ok (.d (.tup ds)) ρ2 else .bad) rvB ?_ fun ds ρ1 x H1 r1 s1 v1 p1 => ?_⟩
  · show Post c b W σ (Rv c σ) ρ H (((d.l ρ).bind toDs).bind _) Q
    rw [R.bind_assoc]
    exact hq
  · split at p1
    · rename_i hz
      refine ⟨by rw [v1.length, ← sl16]; exact hz, fun p hp => ?_⟩
      exact Res.post (.refl ..) r1 p1 (Res.upd hp (.tup upd_same (v1.pers (grown hp))))
    · exact p1.elim
theorem fd_lst (xc : XC c N sc n X) {es : List Expr} {pos : Pos} {d : Den} (h : PA X es (tFL c b W d.l)) : FD c b W X (.List es pos) (vDen fun ρ => (d.l ρ).bind fun rs ρ1 => (toDs rs ρ1).bind fun ds ρ2 => if ds.length ≤ SL then .ok (.n (.l ds)) ρ2 else .bad) := by
  refine fd_plain xc (PE.imp (pe_lst (fa_ds h)) fun σ H Q hq => ?_) fun _ => rfl
  obtain ⟨ρ, r, hq⟩ := hq
  refine ⟨ρ, r, Post.of_bind (rep := Rv c σ) (Q := Q) (g := fun ds ρ2 => if ds.length ≤ SL then .ok (.n (.l ds)) ρ2 else .bad) rvB ?_ fun ds ρ1 x H1 r1 s1 v1 p1 => ?_⟩
  · show Post c b W σ (Rv c σ) ρ H (((d.l ρ).bind toDs).bind _) Q
    rw [R.bind_assoc]
    exact hq
  · split at p1
    · rename_i hz
      refine ⟨by rw [v1.length, ← sl16]; exact hz, fun p hp => ?_⟩
      exact Res.post (.refl ..) r1 p1 (Res.upd hp ⟨_, upd_same, v1.pers (grown hp)⟩)
    · exact p1.elim
theorem fd_dnew (xc : XC c N sc n X) {pos : Pos} : FD c b W X (.Dict [] [] pos) (vDen fun ρ => .ok (.n (.k [])) ρ) := by
  refine fd_plain xc (PE.imp pe_dnewK fun σ H Q hq => ?_) fun _ => rfl
  obtain ⟨ρ, r, hq⟩ := hq
  intro p hp
  exact Res.post (.refl ..) r hq (Res.upd hp ⟨[], upd_same, rfl, .nil⟩)
/-! ### slices -/
def PartOk (c : SC) (b : Bs) (W : WX) (X : Cx) (lo : Option Expr) (f : Env → R (Option Int)) : Prop := ∃ tl, PO X lo tl ∧ ∀ σ H Q, (∃ ρ, ER c b σ ρ H ∧ Post c b W σ (fun _ _ (x a : Option Int) => x = a) ρ H (f ρ) Q) → tl σ H Q
theorem part_none {d : Den} : PartOk c b W X none (partOf true d) := ⟨_, po_none, fun σ H Q ⟨ρ, r, hq⟩ => hq none H r (.refl ..) rfl⟩
theorem part_some {e : Expr} {d : Den} (h : PE X e (tF c b W d.v)) : PartOk c b W X (some e) (partOf false d) := ⟨_, po_some h, fun σ H Q ⟨ρ, r, hq⟩ => by
  refine ⟨ρ, r, Post.of_bind (rep1 := Rv c σ) (fun _ _ _ _ _ _ z => z) hq fun q ρ1 x H1 r1 s1 v1 p1 => ?_⟩
  split at p1
  · cases v1
    exact ⟨_, rfl, p1 _ H1 r1 (.refl ..) rfl⟩
  · exact p1.elim⟩
theorem fd_sl (xc : XC c N sc n X) {ea : Expr} {da : Den} {lo hi : Option Expr} {pos p2 : Pos} {fl fh : Env → R (Option Int)} (ha : FD c b W X ea da) (hl : PartOk c b W X lo fl) (hh : PartOk c b W X hi fh) :
    FD c b W X (.Subscript ea (.Slice lo hi none p2) pos) (vDen fun ρ => (da.v ρ).bind fun r ρ1 => (fl ρ1).bind fun i ρ2 => (fh ρ2).bind fun j ρ3 => R.opt ((view ρ3 r).bind fun x => sls x i j) ρ3) := by
  obtain ⟨tl, pl, il⟩ := hl
  obtain ⟨th, ph, ih⟩ := hh
  refine fd_plain xc (PE.imp (pe_slice (sls_ok xc) ha.v pl ph) fun σ H Q hq => ?_) fun _ => rfl
  obtain ⟨ρ, r, hq⟩ := hq
  refine ⟨ρ, r, Post.of_bind (rep1 := Rv c σ) rvB hq fun ra ρ1 x H1 r1 s1 v1 p1 => ?_⟩
  refine il _ _ _ ⟨ρ1, r1, Post.of_bind (rep1 := fun _ _ (x a : Option Int) => x = a) rvB p1 fun i ρ2 y H2 r2 s2 v2 p2 => ?_⟩
  refine ih _ _ _ ⟨ρ2, r2, Post.of_bind (rep1 := fun _ _ (x a : Option Int) => x = a) rvB p2 fun j ρ3 z H3 r3 s3 v3 p3 => ?_⟩
  subst v2 v3
  obtain ⟨rr, e0, p3⟩ := p3.opt
  obtain ⟨dx, e1, e2⟩ := bind1 e0
  exact ⟨dx, rr, view_ok r3 (Rv.step r r2 (s1.trans s2) s3 (Rv.step r r1 s1 s2 v1)) e1, e2, fun z H' res => Res.post (.refl ..) r3 p3 res⟩
/-! ### comparisons -/
theorem chain_imp {fa fb fc : Env → R RV} {g g' : D → D → Option Bool} {σ : L2.St} {H : Hp} {Q : VK} (hq : tF c b W (fun ρ => (fa ρ).bind fun r ρ1 => (fb ρ1).bind fun q ρ2 => match (view ρ2 r).bind fun x => (view ρ2 q).bind fun y => g x y with
      | some true => (fc ρ2).bind fun p ρ3 => R.opt ((view ρ3 q).bind fun x => (view ρ3 p).bind fun y => (g' x y).map fun b => .d (.bl b)) ρ3
      | some false => .ok (.d (.bl false)) ρ2
      | none => .bad) σ H Q) : tChain (fun x y H Q => ∃ dx dy r, Vw c H x dx ∧ Vw c H y dy ∧ (g dx dy).map (fun b => RV.d (.bl b)) = some r ∧ ∀ z H', Res c H z r H' → Q z H')
      (fun x y H Q => ∃ dx dy r, Vw c H x dx ∧ Vw c H y dy ∧ (g' dx dy).map (fun b => RV.d (.bl b)) = some r ∧ ∀ z H', Res c H z r H' → Q z H') (tF c b W fa) (tF c b W fb) (tF c b W fc) σ H Q := by
  obtain ⟨ρ, r, hq⟩ := hq
  refine ⟨ρ, r, Post.of_bind (rep1 := Rv c σ) rvB hq fun ra ρ1 x H1 r1 s1 v1 p1 => ?_⟩
  refine ⟨ρ1, r1, Post.of_bind (rep1 := Rv c σ) rvB p1 fun rb ρ2 y H2 r2 s2 v2 p2 => ?_⟩
  cases e0 : (view ρ2 ra).bind fun x => (view ρ2 rb).bind fun y => g x y with
  | none => rw [e0] at p2; exact p2.elim
  | some k =>
    obtain ⟨dx, e1, e0⟩ := bind1 e0
    obtain ⟨dy, e2, e3⟩ := bind1 e0
    refine ⟨dx, dy, .d (.bl k), view_ok r2 (Rv.step r r1 s1 s2 v1) e1, view_ok r2 v2 e2, by rw [e3]; rfl, fun z H' res => ?_⟩
    obtain ⟨gr, rz⟩ := res
    cases rz
    have r2' := r2.grow gr
    have s2' := s2.trans (Stp.grow (σ := σ) (ρ := ρ2) gr)
    refine ⟨k, rfl, ?_⟩
    have e0' : ((view ρ2 ra).bind fun x => (view ρ2 rb).bind fun y => g x y) = some k := by rw [e1]; show (view ρ2 rb).bind _ = _; rw [e2]; exact e3
    rw [e0'] at p2
    cases k with
    | false => rw [if_neg Bool.false_ne_true]; exact p2 _ H' r2' (Stp.grow gr) (.bl false)
    | true =>
      rw [if_pos rfl]
      have p2 : Post c b W σ (Rv c σ) ρ2 H2 ((fc ρ2).bind fun p ρ3 => R.opt ((view ρ3 rb).bind fun x => (view ρ3 p).bind fun y => (g' x y).map fun b => .d (.bl b)) ρ3) Q := p2
      have p2 := Post.back (Stp.grow (σ := σ) (ρ := ρ2) gr) (rvB ρ2 H' (Stp.grow gr)) p2
      refine ⟨ρ2, r2', Post.of_bind (rep1 := Rv c σ) rvB p2 fun rc ρ3 w H3 r3 s3 v3 p3 => ?_⟩
      obtain ⟨rr, e0, p3⟩ := p3.opt
      obtain ⟨dx', dy', f1, f2, f3⟩ := bind2 e0
      exact ⟨dx', dy', rr, view_ok r3 (Rv.step r1 r2' s2' s3 (Rv.step r1 r2 s2 (Stp.grow gr) v2)) f1, view_ok r3 v3 f2, f3, fun z H' res => Res.post (.refl ..) r3 p3 res⟩
/-- it gives booleans alone -/
def BlOut (f : Env → R RV) : Prop := ∀ ρ r ρ', f ρ = .ok r ρ' → ∃ k, r = .d (.bl k)
theorem ft_bl {f : Env → R RV} (hb : BlOut f) {σ : L2.St} {H : Hp} {Q : Bool → Hp → Prop} (hq : tFB c b W (vDen f).t σ H Q) : tF c b W f σ H (fun x H' => ∃ k, x = .bl k ∧ Q k H') := by
  obtain ⟨ρ, r, hq⟩ := hq
  have hq : Post c b W σ (fun _ _ (x a : Bool) => x = a) ρ H ((f ρ).bind fun r ρ1 => R.opt ((view ρ1 r).bind truth) ρ1) Q := hq
  refine ⟨ρ, r, ?_⟩
  cases ef : f ρ with
  | bad => rw [ef] at hq; exact hq
  | ex e ρ1 => rw [ef] at hq; exact hq
  | ok q ρ1 =>
    obtain ⟨k, rfl⟩ := hb ρ q ρ1 ef
    rw [ef] at hq
    intro x H' r1 s1 v1
    cases v1
    exact ⟨k, rfl, hq k H' r1 s1 rfl⟩
def CmpRun (X : Cx) (op : CmpOp) (a e : Expr) (t : TE) : Prop := ∀ (pins : List (Addr × Obj)) (s : Shared) (σ : L2.St) (H : Hp) (Q : VK), Inv X pins σ H s → t σ H Q →
  wpAny (model X.prog X.w) X.A (eval a X.env) (fun v s1 => wpAny (model X.prog X.w) X.A (eval e X.env) (fun u s2 => wpAny (model X.prog X.w) X.A (compareOp op v u) (EP X pins σ Q) X.xe s2) X.xe s1) X.xe s
theorem fd_cmpRun {op : CmpOp} {a e : Expr} {f : Env → R RV} {pos : Pos} (h : CmpRun X op a e (tF c b W f)) (hb : BlOut f) (hm : notSetD e = true) : FD c b W X (.Compare a [op] [e] pos) (vDen f) := by
  refine ⟨⟨fun pins s σ H Q I hq => wpAny_Compare1 (h pins s σ H Q I hq) (noMarks hm)⟩, ⟨fun pins s σ H Q I hq => ?_⟩⟩
  refine wpAny_isTrue_Compare1 (thn (h pins s σ H _ I (ft_bl hb hq)) fun v s1 h1 => thn h1 fun u s2 h2 => thn h2 fun d s3 ⟨z, H3, I3, r3, k, e, q3⟩ => ?_) (noMarks hm)
  subst e
  cases r3
  exact wpAny_truthy_bool ⟨H3, I3, q3⟩
theorem cmpRun_op {op : CmpOp} {a e : Expr} {r : R2} {ta te : TE} (ho : OpR X (compareOp op) r) (ha : PE X a ta) (he : PE X e te) : CmpRun X op a e (tOp r ta te) := fun pins s σ H Q I h =>
  binT ha he I h fun v u s2 x y H2 I2 rx ry q => ho pins s2 σ H2 x y v u Q I2 rx ry q
theorem CmpRun.imp {op : CmpOp} {a e : Expr} {t t' : TE} (h : CmpRun X op a e t) (i : ∀ σ H Q, t' σ H Q → t σ H Q) : CmpRun X op a e t' := fun pins s σ H Q I q => h pins s σ H Q I (i σ H Q q)
theorem op2_imp {fa fb : Env → R RV} {g : D → D → Option RV} {σ : L2.St} {H : Hp} {Q : VK} (hq : tF c b W (fun ρ => (fa ρ).bind fun r ρ1 => (fb ρ1).bind fun q ρ2 => R.opt ((view ρ2 r).bind fun x => (view ρ2 q).bind fun y => g x y) ρ2) σ H Q) :
    tOp (fun x y H Q => ∃ dx dy r, Vw c H x dx ∧ Vw c H y dy ∧ g dx dy = some r ∧ ∀ z H', Res c H z r H' → Q z H') (tF c b W fa) (tF c b W fb) σ H Q := by
  obtain ⟨ρ, r, hq⟩ := hq
  refine ⟨ρ, r, Post.of_bind (rep1 := Rv c σ) rvB hq fun ra ρ1 x H1 r1 s1 v1 p1 => ?_⟩
  refine ⟨ρ1, r1, Post.of_bind (rep1 := Rv c σ) rvB p1 fun rb ρ2 y H2 r2 s2 v2 p2 => ?_⟩
  obtain ⟨rr, e0, p2⟩ := p2.opt
  obtain ⟨dx, dy, e1, e2, e3⟩ := bind2 e0
  exact ⟨dx, dy, rr, view_ok r2 (Rv.step r r1 s1 s2 v1) e1, view_ok r2 v2 e2, e3, fun z H' res => Res.post (.refl ..) r2 p2 res⟩
/-- a chain of two comparisons -/
theorem fd_cmp2 (xc : XC c N sc n X) {ea eb ec : Expr} {da db dc : Den} {op op' : CmpOp} {pos : Pos} (ha : FD c b W X ea da) (hb : FD c b W X eb db) (hc : FD c b W X ec dc) (hm : notSetD ec = true) :
    FD c b W X (.Compare ea [op, op'] [eb, ec] pos) (vDen fun ρ => (da.v ρ).bind fun r ρ1 => (db.v ρ1).bind fun q ρ2 => match (view ρ2 r).bind fun x => (view ρ2 q).bind fun y => cmps op x y with
      | some true => (dc.v ρ2).bind fun p ρ3 => R.opt ((view ρ3 q).bind fun x => (view ρ3 p).bind fun y => (cmps op' x y).map fun b => .d (.bl b)) ρ3
      | some false => .ok (.d (.bl false)) ρ2
      | none => .bad) := by
  have hl : lastMarks [op, op'] [eb, ec] = false := noMarks hm
  refine ⟨PE.imp (pe_chain (ops_cmp xc op) (ops_cmp xc op') ha.v hb.v hc.v hl) fun σ H Q hq => chain_imp hq, PT.imp (pt_chain (ops_cmp xc op) (ops_cmp xc op') ha.v hb.v hc.v hl) fun σ H Q hq => ?_⟩
  refine chain_imp (ft_bl ?_ hq)
  intro ρ r ρ' e
  obtain ⟨r1, ρ1, e1, e⟩ := R.bind_ok e
  obtain ⟨r2, ρ2, e2, e⟩ := R.bind_ok e
  split at e
  · obtain ⟨r3, ρ3, e3, e⟩ := R.bind_ok e
    obtain ⟨ek, _⟩ := R.opt_ok e
    obtain ⟨dx, f1, f2⟩ := bind1 ek
    obtain ⟨dy, f3, f4⟩ := bind1 f2
    obtain ⟨bv, f5, rfl⟩ := map_bl f4
    exact ⟨bv, rfl⟩
  · cases e; exact ⟨_, rfl⟩
  · cases e
end
end Fl
set_option Elab.async false
set_option linter.all false
set_option maxRecDepth 100000
set_option maxHeartbeats 4000000
/-! Layer F, part 9: built-ins, methods, f-strings. -/
namespace Fl
open PySem PySem.Spec PyProof.Rows L2 NdefX LamX
section
variable {X : Cx} {c : SC} {b : Bs} {W : WX} {N : List Str} {sc : Scope} {n : Nat}
theorem opL_imp {f : Env → R (List RV)} {g : List D → Option RV} {σ : L2.St} {H : Hp} {Q : VK} (hq : tF c b W (fun ρ => (f ρ).bind fun rs ρ1 => R.opt ((views ρ1 rs).bind g) ρ1) σ H Q) :
    tCB (fun xs H Q => ∃ ds r, VwL c H xs ds ∧ g ds = some r ∧ ∀ z H', Res c H z r H' → Q z H') (tFL c b W f) σ H Q := by
  obtain ⟨ρ, r, hq⟩ := hq
  refine ⟨ρ, r, Post.of_bind (rep1 := RvL c σ) rvB hq fun rs ρ1 xs H1 r1 s1 v1 p1 => ?_⟩
  obtain ⟨rr, e0, p1⟩ := p1.opt
  obtain ⟨ds, e1, e2⟩ := bind1 e0
  exact ⟨ds, rr, views_ok r1 v1 e1, e2, fun z H' res => Res.post (.refl ..) r1 p1 res⟩
theorem fd_blt (xc : XC c N sc n X) {x : Str} {p pos : Pos} {e : Expr} {es : List Expr} {d : Den} (k : Bl) (hk : ∀ t, k ≠ .isi t) (hg : sc.names.lookup x = some .globalImplicit) (hm : c.mg x = none) (hv : bootBuiltins x = some (blV k)) (hn : (x == ("__name__" : Str)) = false) (hdb : (x == ("__debug__" : Str)) = false)
    (hs : (e :: es).all notStar = true) (ha : PA X (e :: es) (tFL c b W d.l)) : FD c b W X (.Call (.Name x p) (e :: es) [] pos) (opL d (blt k)) := by
  have hs' := hs
  rw [List.all_cons, Bool.and_eq_true] at hs'
  have hg' : Gl X x := by show X.env.scope.names.lookup x = _; rw [xc.sc]; exact hg
  have hm' : X.mg x = none := by rw [xc.mg]; exact hm
  have hn' : x ≠ "__name__" := fun z => by rw [z] at hn; cases hn
  refine fd_plain xc (PE.imp (t := tCB (fun xs H Q => ∃ ds r, VwL c H xs ds ∧ blt k ds = some r ∧ ∀ z H', Res c H z r H' → Q z H') (tFL c b W d.l)) ?_ fun σ H Q hq => opL_imp hq) fun _ => rfl
  have hc := call_blt xc k hk
  cases k with
  | isi t => exact absurd rfl (hk t)
  | len => exact pe_callB hc hg' hm' hv ha hn' hdb (star_cons hs'.1) (backTo_plain hs'.2)
  | abs => exact pe_callB hc hg' hm' hv ha hn' hdb (star_cons hs'.1) (backTo_plain hs'.2)
  | min => exact pe_callB hc hg' hm' hv ha hn' hdb (star_cons hs'.1) (backTo_plain hs'.2)
  | max => exact pe_callB hc hg' hm' hv ha hn' hdb (star_cons hs'.1) (backTo_plain hs'.2)
  | sum => exact pe_callB hc hg' hm' hv ha hn' hdb (star_cons hs'.1) (backTo_plain hs'.2)
  | all => exact pe_callB hc hg' hm' hv ha hn' hdb (star_cons hs'.1) (backTo_plain hs'.2)
  | any => exact pe_callB hc hg' hm' hv ha hn' hdb (star_cons hs'.1) (backTo_plain hs'.2)
  | sorted => exact pe_callB hc hg' hm' hv ha hn' hdb (star_cons hs'.1) (backTo_plain hs'.2)
  | divmod => exact pe_callB hc hg' hm' hv ha hn' hdb (star_cons hs'.1) (backTo_plain hs'.2)
  | int => exact pe_callTy hc hg' hm' hv ha hn' hdb (star_cons hs'.1) (backTo_plain hs'.2)
  | list => exact pe_callTy hc hg' hm' hv ha hn' hdb (star_cons hs'.1) (backTo_plain hs'.2)
  | tuple => exact pe_callTy hc hg' hm' hv ha hn' hdb (star_cons hs'.1) (backTo_plain hs'.2)
  | str => exact pe_callTy hc hg' hm' hv ha hn' hdb (star_cons hs'.1) (backTo_plain hs'.2)
theorem opL1 {d : Den} {g : List D → Option RV} {σ : L2.St} {H : Hp} {Q : VK} (hq : tF c b W (opL ⟨fun _ => .bad, fun _ => .bad, fun ρ => (d.v ρ).bind fun x ρ1 => R.bind (.ok [] ρ1) fun xs ρ2 => .ok (x :: xs) ρ2⟩ g).v σ H Q) :
    tF c b W (fun ρ => (d.v ρ).bind fun r ρ1 => R.opt ((view ρ1 r).bind fun x => g [x]) ρ1) σ H Q := by
  obtain ⟨ρ, r, hq⟩ := hq
  refine ⟨ρ, r, ?_⟩
  have e : (opL ⟨fun _ => .bad, fun _ => .bad, fun ρ => (d.v ρ).bind fun x ρ1 => R.bind (.ok [] ρ1) fun xs ρ2 => .ok (x :: xs) ρ2⟩ g).v ρ = (d.v ρ).bind fun r ρ1 => R.opt ((view ρ1 r).bind fun x => g [x]) ρ1 := by
    show ((d.v ρ).bind fun x ρ1 => R.bind (.ok [] ρ1) fun xs ρ2 => .ok (x :: xs) ρ2).bind _ = _
    rw [R.bind_assoc]
    cases d.v ρ with
    | bad => rfl
    | ex e ρ => rfl
    | ok q ρ1 =>
      show R.opt ((views ρ1 [q]).bind g) ρ1 = R.opt ((view ρ1 q).bind fun x => g [x]) ρ1
      show R.opt ((match view ρ1 q with | some d => (match some [] with | some ds => some (d :: ds) | none => none) | none => none : Option (List D)).bind g) ρ1 = _
      cases view ρ1 q <;> rfl
  rw [e] at hq
  exact hq
theorem fd_isi (xc : XC c N sc n X) (cf : CF c) {p p2 pos : Pos} {e : Expr} {y : Str} {d : Den} (t : Ty) (hg : sc.names.lookup ("isinstance" : Str) = some .globalImplicit) (hm : c.mg "isinstance" = none) (hs : notStar e = true) (ha : FD c b W X e d)
    (ht : PE X (.Name y p2) (tC (tyV c t))) (hC : ∀ C, t = .cls C → c.isCls C = true) :
    FD c b W X (.Call (.Name "isinstance" p) [e, .Name y p2] [] pos) (opL ⟨fun _ => .bad, fun _ => .bad, fun ρ => (d.v ρ).bind fun x ρ1 => R.bind (.ok [] ρ1) fun xs ρ2 => .ok (x :: xs) ρ2⟩ (blt (.isi t))) := by
  have hg' : Gl X "isinstance" := by show X.env.scope.names.lookup ("isinstance" : Str) = _; rw [xc.sc]; exact hg
  refine fd_plain xc (PE.imp (pe_callB (call_isiF xc cf hC) hg' (by rw [xc.mg]; exact hm) rfl (pa_cons ha.v (pa_cons ht pa_nil rfl) (star_cons hs)) (by decide) (by decide) (star_cons hs) rfl) fun σ H Q hq => ?_) fun _ => rfl
  obtain ⟨ρ, r, hq⟩ := opL1 hq
  refine ⟨ρ, r, Post.of_bind (rep1 := Rv c σ) rvB hq fun q ρ1 x H1 r1 s1 v1 p1 => ?_⟩
  obtain ⟨rr, e0, p1⟩ := p1.opt
  obtain ⟨dx, e1, e2⟩ := bind1 e0
  have e2 : (if isFn dx = true then none else some (RV.d (.bl (isTy dx t)))) = some rr := e2
  split at e2
  · cases e2
  · rename_i hf
    cases e2
    exact ⟨x, dx, rfl, view_ok r1 v1 e1, by simpa using hf, fun z H' res => Res.post (.refl ..) r1 p1 res⟩
/-! ### methods -/
theorem mth_split {z : Str} {ys : List D} {r : RV} (h : mth .split (.str z) ys = some r) : ∃ z2, ys = [.str z2] ∧ (z2.length == 0) = false ∧ z.length + 2 ≤ SL ∧ r = .n (.l ((Txt.split z z2).map .str)) := by
  cases ys with
  | nil => cases h
  | cons y ys => cases ys with
    | cons _ _ => cases y <;> cases h
    | nil => cases y with
      | str z2 =>
        have h : (if (z2.length == 0) = false ∧ z.length + 2 ≤ SL then some (RV.n (.l ((Txt.split z z2).map .str))) else none) = some r := h
        split at h
        · rename_i hz
          cases h
          exact ⟨z2, rfl, hz.1, hz.2, rfl⟩
        · cases h
      | _ => cases h
theorem fd_split (xc : XC c N sc n X) {o e : Expr} {apos pos : Pos} {dO d : Den} (ho : FD c b W X o dO) (ha : PA X [e] (tFL c b W d.l)) (hs : notStar e = true) (hb : okBase o = true) (hl : (apos.endLine == pos.line) = true) :
    FD c b W X (.Call (.Attribute o "split" apos) [e] [] pos) (vDen fun ρ => (dO.v ρ).bind fun r ρ1 => match view ρ1 r with
      | some (.str x) => (d.l ρ1).bind fun rs ρ2 => R.opt ((views ρ2 rs).bind fun ys => mth .split (.str x) ys) ρ2
      | _ => .bad) := by
  refine fd_plain xc (PE.imp (pe_bm PySem.F.plainAttrs_str PySem.F.slot_str_split PySem.F.type_str_split mt_split ho.v ha (base_ok hb) ?_ hl (star_cons hs) rfl) fun σ H Q hq => ?_) fun _ => rfl
  · rw [star_cons hs]; rfl
  obtain ⟨ρ, r, hq⟩ := hq
  refine ⟨ρ, r, Post.of_bind (rep1 := Rv c σ) rvB hq fun q ρ1 x H1 r1 s1 v1 p1 => ?_⟩
  split at p1
  · rename_i z ez
    have ex := (view_ok r1 v1 ez).str
    subst ex
    refine ⟨rfl, ρ1, r1, Post.of_bind (rep1 := RvL c σ) rvB p1 fun rs ρ2 xs H2 r2 s2 v2 p2 => ?_⟩
    obtain ⟨rr, e0, p2⟩ := p2.opt
    obtain ⟨ys, e1, e2⟩ := bind1 e0
    obtain ⟨z2, rfl, hz1, hz2, rfl⟩ := mth_split e2
    obtain ⟨y, rfl, vy⟩ := (views_ok r2 v2 e1).one
    have ey := vy.str
    subst ey
    refine ⟨_, _, rfl, rfl, hz1, by rw [← sl16]; exact hz2, fun p hp => ?_⟩
    exact Res.post (.refl ..) r2 p2 (Res.upd hp ⟨_, upd_same, RpL.strs _⟩)
  · exact p1.elim
/-- an object at a slot, changed -/
theorem upd_at {σ : L2.St} {ρ : Env} {H H' : Hp} {i : Nat} {w : Bool} {o o' : MO} {a : Addr} (r : ER c b σ ρ H) (e : ρ[i]? = some (some (.m w o))) (es : σ[i]? = some (some (.ref a))) (oth : ∀ p, p ≠ a → H' p = H p) (hm : Mo c H' a o') :
    ER c b σ (ρ.set i (some (.m w o'))) H' ∧ Stp σ ρ H (ρ.set i (some (.m w o'))) H' ∧ Pers H H' := by
  obtain ⟨u, eu, mu, pu, nt⟩ := r.mutAt ⟨i, w, o, e, es⟩
  have hi : i < ρ.length := (List.getElem?_eq_some_iff.mp e).1
  have P : Pers H H' := fun p x hx hp => by
    rw [oth p fun z => by rw [z, eu] at hx; cases hx; rw [pu] at hp; cases hp]
    exact hx
  have tk : ∀ p x, H p = some x → ((∃ ps, x = .tbl ps) ∨ per x = true) → H' p = some x := fun p x hx q => by
    rw [oth p fun z => ?_]
    · exact hx
    · rw [z, eu] at hx
      cases hx
      rcases q with ⟨ps, q⟩ | q
      · exact nt ps q
      · rw [pu] at q; cases q
  have at_ : ∀ (j : Nat) (w1 : Bool) (o1 : MO), (ρ.set i (some (.m w o')))[j]? = some (some (.m w1 o1)) → (j = i ∧ w1 = w) ∨ (j ≠ i ∧ ρ[j]? = some (some (.m w1 o1))) := fun j w1 o1 h => by
    by_cases hj : i = j
    · subst hj
      rw [List.getElem?_set_self hi] at h
      cases h
      exact .inl ⟨rfl, rfl⟩
    · rw [List.getElem?_set_ne hj] at h
      exact .inr ⟨fun z => hj z.symm, h⟩
  have back : ∀ (j : Nat) (w1 : Bool) (o1 : MO), (ρ.set i (some (.m w o')))[j]? = some (some (.m w1 o1)) → ∃ o2, ρ[j]? = some (some (.m w1 o2)) := fun j w1 o1 h => by
    rcases at_ j w1 o1 h with ⟨rfl, rfl⟩ | ⟨_, h⟩
    · exact ⟨_, e⟩
    · exact ⟨_, h⟩
  refine ⟨⟨by rw [List.length_set]; exact r.len, fun j sv h => ?_, fun j k w1 w2 o1 o2 p h1 h2 s1 s2 => ?_, fun j o1 p h1 s1 => ?_, fun j o1 p h1 s1 => ?_, fun j p hj => ?_, fun p x hx n q => ?_, fun p ps hx => ?_, fun p hp => tabN_keep (r.tabs p hp) tk⟩,
    ⟨fun p x hx n q => ?_, fun j w1 o1 h => back j w1 o1 h, fun p h => ?_⟩, P⟩
  · by_cases hj : i = j
    · subst hj
      rw [List.getElem?_set_self hi] at h
      cases h
      exact ⟨_, es, a, rfl, hm⟩
    · rw [List.getElem?_set_ne hj] at h
      obtain ⟨x, e1, q⟩ := r.slot j sv h
      refine ⟨x, e1, ?_⟩
      cases sv with
      | d v => exact Rp.pers P q
      | m w1 o1 =>
        obtain ⟨a', ea, q⟩ := q
        exact ⟨a', ea, q.stay (oth _ fun z => hj (r.apart i j w w1 o o1 a e h es (by rw [e1, ea, z]))) P⟩
  · obtain ⟨o1', h1⟩ := back _ _ _ h1
    obtain ⟨o2', h2⟩ := back _ _ _ h2
    exact r.apart j k w1 w2 o1' o2' p h1 h2 s1 s2
  · obtain ⟨o1', h1⟩ := back _ _ _ h1
    exact r.own j o1' p h1 s1
  · obtain ⟨o1', h1⟩ := back _ _ _ h1
    exact r.par j o1' p h1 s1
  · obtain ⟨⟨o1, e1⟩, e2⟩ := r.parB j p hj
    refine ⟨?_, e2⟩
    by_cases hij : i = j
    · subst hij
      rw [e] at e1
      cases e1
      exact ⟨_, List.getElem?_set_self hi⟩
    · exact ⟨o1, by rw [List.getElem?_set_ne hij]; exact e1⟩
  · rw [oth p fun z => ?_]
    · exact r.fr p x hx n q
    · subst z
      cases w with
      | true => rw [r.own i o p e es] at hx; cases hx
      | false => exact n i (r.par i o p e es)
  · obtain ⟨more, h⟩ := r.frT p ps hx
    exact ⟨more, tk p _ h (.inl ⟨_, rfl⟩)⟩
  · rw [oth p fun z => n (by rw [z]; exact ⟨i, w, o, e, es⟩)]
    exact hx
  · by_cases z : p = a
    · subst z
      obtain ⟨u', e', _⟩ := hm.mut
      rw [h] at e'
      cases e'
    · rw [oth p z] at h
      exact h
theorem upd_oth {H : Hp} {a : Addr} {o : HO} : ∀ p, p ≠ a → upd H a o p = H p := fun p h => upd_ne h
theorem Rp.upd {σ : L2.St} {ρ : Env} {H : Hp} {a : Addr} {o : HO} {v : V} {d : D} (r : ER c b σ ρ H) (m : MutAt σ ρ a) (h : Rp c H v d) : Rp c (L2.upd H a o) v d := by
  obtain ⟨u, eu, _, pu, _⟩ := r.mutAt m
  refine Rp.pers (fun p x hx hp => ?_) h
  rw [upd_ne fun z => by rw [z, eu] at hx; cases hx; rw [pu] at hp; cases hp]
  exact hx
theorem RpL.upd {σ : L2.St} {ρ : Env} {H : Hp} {a : Addr} {o : HO} {v : List V} {d : List D} (r : ER c b σ ρ H) (m : MutAt σ ρ a) (h : RpL c H v d) : RpL c (L2.upd H a o) v d := by
  obtain ⟨u, eu, _, pu, _⟩ := r.mutAt m
  refine RpL.pers (fun p x hx hp => ?_) h
  rw [upd_ne fun z => by rw [z, eu] at hx; cases hx; rw [pu] at hp; cases hp]
  exact hx
/-- what a changing method does, with what it wants of its arguments -/
def MutS (c : SC) (X : Cx) (id : String) (m : Mt) : Prop :=
  MtR X id (fun x xs H Q => ∃ (ws : List D) (ds : List D) (rr : RV) (o' : MO) (a : Addr), x = .ref a ∧ Mo c H a (.l ws) ∧ RpL c H xs ds ∧ mthM m (.l ws) ds = some (rr, o') ∧
    ∀ z u, Mo c (upd H a u) a o' → (∃ d, rr = .d d ∧ (Rp c H z d ∨ Rp c (upd H a u) z d)) → Q z (upd H a u))
theorem run_mutM (xc : XC c N sc n X) {σ : L2.St} {H : Hp} {Q : VK} {i : Nat} {m : Mt} {d : Den}
    (hq : tF c b W (fun ρ => match ρ[i]? with
      | some (some (.m _ (.l _))) => (d.l ρ).bind fun rs ρ1 => (toDs rs ρ1).bind fun ds ρ2 => (match ρ2[i]? with
        | some (some (.m w o)) => (match mthM m o ds with
          | some (r, o') => .ok r (ρ2.set i (some (.m w o')))
          | none => .bad)
        | _ => .bad)
      | _ => .bad) σ H Q) : ∃ x, σ[i]? = some (some x) ∧ L2.tyV X.K "list" x H ∧ tFDs c b W (fun ρ => (d.l ρ).bind toDs) σ H (fun xs H2 => ∃ (ws ds : List D) (rr : RV) (o' : MO) (a : Addr), x = .ref a ∧ Mo c H2 a (.l ws) ∧ RpL c H2 xs ds ∧ mthM m (.l ws) ds = some (rr, o') ∧
        ∀ z u, Mo c (upd H2 a u) a o' → (∃ d, rr = .d d ∧ (Rp c H2 z d ∨ Rp c (upd H2 a u) z d)) → Q z (upd H2 a u)) := by
  obtain ⟨ρ, r, hq⟩ := hq
  dsimp only at hq
  split at hq
  · rename_i w ws e
    obtain ⟨x, e1, a, ea, vs, hv, t⟩ := r.slot i _ e
    subst ea
    refine ⟨_, e1, .inl ⟨rfl, vs, SqL.of hv⟩, ρ, r, ?_⟩
    rw [← R.bind_assoc] at hq
    refine Post.of_bind (rep1 := fun _ H' x d => RpL c H' x d) rvB hq fun ds ρ2 xs H2 r2 s2 v2 p2 => ?_
    split at p2
    · rename_i w2 o2 e2
      split at p2
      · rename_i rr o' em
        obtain ⟨x2, f1, a2, ea2, m2⟩ := r2.slot i _ e2
        rw [e1] at f1
        cases f1
        cases ea2
        have ol : ∃ ws2, o2 = .l ws2 := by
          cases o2 with
          | l ws2 => exact ⟨ws2, rfl⟩
          | _ => simp [mthM] at em
        obtain ⟨ws2, rfl⟩ := ol
        refine ⟨ws2, ds, rr, o', a, rfl, m2, v2, em, fun z u hm hz => ?_⟩
        obtain ⟨r3, s3, P3⟩ := upd_at r2 e2 e1 upd_oth hm
        refine p2 z _ r3 s3 ?_
        obtain ⟨dz, rfl, hz⟩ := hz
        rcases hz with hz | hz
        · exact Rp.pers P3 hz
        · exact hz
      · exact p2.elim
    · exact p2.elim
  · exact hq.elim
theorem fd_mthM (xc : XC c N sc n X) {i : Nat} {x : Str} {name : Str} {id : String} {e : Expr} {es : List Expr} {p apos pos : Pos} {d : Den} {m : Mt} (slot : Slot "list" name id) (hty : typeOf (.builtin id) = pure (.type "method_descriptor")) (hm : MutS c X id m)
    (hN : N[i]? = some x) (hv : Vis sc x) (hd : (x == ("__debug__" : Str)) = false) (hcd : (x == ("__classdict__" : Str)) = false) (hs : (e :: es).all notStar = true) (hfew : (e :: es).length < 20) (hl : (apos.endLine == pos.line) = true) (ha : PA X (e :: es) (tFL c b W d.l)) :
    FD c b W X (.Call (.Attribute (.Name x p) name apos) (e :: es) [] pos) (vDen fun ρ => match ρ[i]? with
      | some (some (.m _ (.l _))) => (d.l ρ).bind fun rs ρ1 => (toDs rs ρ1).bind fun ds ρ2 => (match ρ2[i]? with
        | some (some (.m w o)) => (match mthM m o ds with
          | some (r, o') => .ok r (ρ2.set i (some (.m w o')))
          | none => .bad)
        | _ => .bad)
      | _ => .bad) := by
  have hs' := hs
  rw [List.all_cons, Bool.and_eq_true] at hs'
  refine fd_plain xc (PE.imp (pe_bm PySem.F.plainAttrs_list slot hty hm (pe_var (i := i) (by rw [xc.nm]; exact hN) (by rw [xc.sc]; exact hv) hd hcd) (fa_ds ha) rfl ?_ hl (star_cons hs'.1) (backTo_plain hs'.2)) fun σ H Q hq => ?_) fun _ => rfl
  · rw [backTo_all hs]
    have : decide ((e :: es).length + ([] : List Keyword).length + (if ([] : List Keyword).isEmpty then 0 else 1) < 30) = true := decide_eq_true (by simp at hfew ⊢; omega)
    rw [this]
    rfl
  · obtain ⟨y, e1, ty, hh⟩ := run_mutM xc hq
    refine ⟨y, e1, ty, ?_⟩
    obtain ⟨ρ, r, hh⟩ := hh
    exact ⟨ρ, r, hh.mono fun xs H2 ⟨ws, ds, rr, o', a, h1, h2, h3, h4, h5⟩ => ⟨ws, ds, rr, o', a, h1, h2, h3, h4, h5⟩⟩
theorem fd_mthM0 (xc : XC c N sc n X) {i : Nat} {x : Str} {name : Str} {id : String} {p apos pos : Pos} {m : Mt} (slot : Slot "list" name id) (hty : typeOf (.builtin id) = pure (.type "method_descriptor")) (hm : MutS c X id m)
    (hN : N[i]? = some x) (hv : Vis sc x) (hd : (x == ("__debug__" : Str)) = false) (hcd : (x == ("__classdict__" : Str)) = false) (hl : (apos.endLine == pos.line) = true) :
    FD c b W X (.Call (.Attribute (.Name x p) name apos) [] [] pos) (vDen fun ρ => match ρ[i]? with
      | some (some (.m _ (.l _))) => (R.ok [] ρ).bind fun rs ρ1 => (toDs rs ρ1).bind fun ds ρ2 => (match ρ2[i]? with
        | some (some (.m w o)) => (match mthM m o ds with
          | some (r, o') => .ok r (ρ2.set i (some (.m w o')))
          | none => .bad)
        | _ => .bad)
      | _ => .bad) := by
  refine fd_plain xc (PE.imp (pe_bm0 PySem.F.plainAttrs_list slot hty hm (pe_var (i := i) (by rw [xc.nm]; exact hN) (by rw [xc.sc]; exact hv) hd hcd) rfl hl) fun σ H Q hq => ?_) fun _ => rfl
  obtain ⟨y, e1, ty, hh⟩ := run_mutM (d := ⟨fun _ => .bad, fun _ => .bad, fun ρ => .ok [] ρ⟩) xc hq
  refine ⟨y, e1, ty, ?_⟩
  obtain ⟨ρ, r, hh⟩ := hh
  have hh := hh [] H r (.refl ..) .nil
  exact hh
theorem mutM_append {ws ds : List D} {rr : RV} {o' : MO} (h : mthM .append (.l ws) ds = some (rr, o')) : ∃ v, ds = [v] ∧ ws.length < SL ∧ rr = .d .non ∧ o' = .l (ws ++ [v]) := by
  match ds, h with
  | [v], h =>
    have h : (if ws.length < SL then some (RV.d .non, MO.l (ws ++ [v])) else none) = some (rr, o') := h
    split at h
    · cases h; exact ⟨v, rfl, by assumption, rfl, rfl⟩
    · cases h
  | [], h => cases h
  | _ :: _ :: _, h => cases h
theorem mut_append : MutS c X "list.append" .append := by
  intro pins s σ H x xs v us Q I rx rxs h
  obtain ⟨ws, ds, rr, o', a, rfl, ⟨vs, hv, t⟩, tx, em, q⟩ := h
  obtain ⟨d, rfl, hz, rfl, rfl⟩ := mutM_append em
  cases tx with
  | cons hx tn =>
    cases tn
    rename_i y
    refine mt_append pins s σ H _ _ v us Q I rx rxs ⟨a, vs, y, rfl, rfl, hv, by rw [t.length, ← sl16]; exact hz, q _ _ ⟨_, upd_same, ?_⟩ ⟨_, rfl, .inl .non⟩⟩
    have P : Pers H (L2.upd H a (.lst (vs ++ [y]))) := fun p o hp hpp => by
      rw [upd_ne fun z => by rw [z, hv] at hp; cases hp; cases hpp]
      exact hp
    exact (t.pers P).append (.cons (hx.pers P) .nil)
theorem pers_upd {H : Hp} {a : Addr} {o o' : HO} (h : H a = some o) (hp : per o = false) : Pers H (L2.upd H a o') := fun p x hx hpp => by
  rw [upd_ne fun z => by rw [z, h] at hx; cases hx; rw [hp] at hpp; cases hpp]
  exact hx
theorem mut_pop : MutS c X "list.pop" .pop := by
  intro pins s σ H x xs v us Q I rx rxs h
  obtain ⟨ws, ds, rr, o', a, rfl, ⟨vs, hv, t⟩, tx, em, q⟩ := h
  match ds, em, tx with
  | [], em, tx =>
    cases tx
    have em : (ws[ws.length - 1]?).map (fun y => (RV.d y, MO.l ws.dropLast)) = some (rr, o') := em
    cases e1 : ws[ws.length - 1]? with
    | none => rw [e1] at em; cases em
    | some y =>
      rw [e1] at em
      cases em
      obtain ⟨w, ew, rw_⟩ := t.get e1
      rw [← t.length] at ew
      exact mt_pop pins s σ H _ _ v us Q I rx rxs ⟨a, vs, w, rfl, rfl, hv, ew, q _ _ ⟨_, upd_same, (t.pers (pers_upd hv rfl)).dropLast⟩ ⟨_, rfl, .inl rw_⟩⟩
  | [d], em, tx =>
    cases tx with
    | cons hx tn =>
      cases tn
      cases d with
      | int i =>
        cases hx
        have em : (if sm62 i = true then (match seqIndex? i ws.length with
          | some k => (ws[k]?).map fun y => (RV.d y, MO.l (ws.eraseIdx k))
          | none => none) else none) = some (rr, o') := em
        split at em
        · rename_i hs
          split at em
          · rename_i k ek
            cases e1 : ws[k]? with
            | none => rw [e1] at em; cases em
            | some y =>
              rw [e1] at em
              cases em
              obtain ⟨w, ew, rw_⟩ := t.get e1
              have hs := of_decide_eq_true hs
              exact mt_popAt pins s σ H _ _ v us Q I rx rxs ⟨a, vs, i, k, w, rfl, rfl, hv, by omega, by omega, by rw [t.length]; exact ek, ew, q _ _ ⟨_, upd_same, (t.pers (pers_upd hv rfl)).eraseIdx k⟩ ⟨_, rfl, .inl rw_⟩⟩
          · cases em
        · cases em
      | _ => cases em
  | _ :: _ :: _, em, tx => exact absurd em (by simp [mthM])
/-! ### f-strings -/
def FJ (c : SC) (b : Bs) (W : WX) (X : Cx) (es : List Expr) (d : Den) : Prop := ∃ ts, PJ X es ts ∧ ∀ (σ : L2.St) (acc : Str) (ρ ρ2 : Env) (rs : List RV) (z : Str) (H : Hp) (Q : Str → Hp → Prop), d.l ρ = .ok rs ρ2 → strsR rs = some z → (acc ++ z).length ≤ SL → ER c b σ ρ H →
  (∀ H2, ER c b σ ρ2 H2 → Stp σ ρ H ρ2 H2 → Q (acc ++ z) H2) → tJs ts acc σ H Q
theorem fj_nil : FJ c b W X [] ⟨fun _ => .bad, fun ρ => .ok true ρ, fun ρ => .ok [] ρ⟩ := ⟨[], .nil, fun σ acc ρ ρ2 rs z H Q e1 e2 hz r q => by
  have e1 : R.ok [] ρ = .ok rs ρ2 := e1
  cases e1
  cases e2
  rw [Str.append_empty] at q
  exact q H r (.refl ..)⟩
theorem strsR_cons {r : RV} {rs : List RV} {z : Str} (h : strsR (r :: rs) = some z) : ∃ x y, r = .d (.str x) ∧ strsR rs = some y ∧ z = x ++ y := by
  unfold strsR at h
  split at h
  · rename_i e; cases e
  · rename_i x r' e
    cases e
    split at h
    · rename_i y ey; cases h; exact ⟨x, y, rfl, ey, rfl⟩
    · cases h
  · cases h
theorem fj_cons {e : Expr} {es : List Expr} {f : Env → R RV} {d : Den} {te : TE} (he : PE X e te)
    (hte : ∀ (σ : L2.St) (ρ ρ1 : Env) (x : Str) (H : Hp) (Q : VK), f ρ = .ok (.d (.str x)) ρ1 → x.length ≤ SL → ER c b σ ρ H → (∀ H1, ER c b σ ρ1 H1 → Stp σ ρ H ρ1 H1 → Q (.str x) H1) → te σ H Q) (hs : FJ c b W X es d) :
    FJ c b W X (e :: es) ⟨fun _ => .bad, fun _ => .bad, fun ρ => (f ρ).bind fun x ρ1 => (d.l ρ1).bind fun xs ρ2 => .ok (x :: xs) ρ2⟩ := by
  obtain ⟨ts, hj, ht⟩ := hs
  refine ⟨te :: ts, .cons he hj, fun σ acc ρ ρ2 rs z H Q e1 e2 hz r q => ?_⟩
  obtain ⟨r1, ρ1, f1, e1⟩ := R.bind_ok e1
  obtain ⟨rs', ρ2', f2, e1⟩ := R.bind_ok e1
  cases e1
  obtain ⟨x, y, rfl, ey, rfl⟩ := strsR_cons e2
  rw [Str.length_append, Str.length_append] at hz
  refine hte σ ρ ρ1 x H _ f1 (by omega) r fun H1 r1 s1 => ⟨x, rfl, by rw [← sl16, Str.length_append]; omega, ht σ (acc ++ x) ρ1 ρ2 rs' y H1 Q f2 ey (by rw [Str.length_append, Str.length_append]; omega) r1 fun H2 r2 s2 => ?_⟩
  rw [Str.append_assoc]
  exact q H2 r2 (s1.trans s2)
theorem fj_str {y : Str} {k : Nat} {pos : Pos} {es : List Expr} {d : Den} (hs : FJ c b W X es d) : FJ c b W X (.Constant (.str y) k pos :: es) ⟨fun _ => .bad, fun _ => .bad, fun ρ => (R.ok (.d (.str y)) ρ).bind fun x ρ1 => (d.l ρ1).bind fun xs ρ2 => .ok (x :: xs) ρ2⟩ :=
  fj_cons (f := fun ρ => .ok (.d (.str y)) ρ) pe_str (fun σ ρ ρ1 x H Q e hz r q => by cases e; exact q H r (.refl ..)) hs
theorem fj_fv {e : Expr} {pos : Pos} {es : List Expr} {da d : Den} (he : FD c b W X e da) (hs : FJ c b W X es d) : FJ c b W X (.FormattedValue e (-1) none pos :: es) ⟨fun _ => .bad, fun _ => .bad, fun ρ => ((op1 da fvF).v ρ).bind fun x ρ1 => (d.l ρ1).bind fun xs ρ2 => .ok (x :: xs) ρ2⟩ :=
  fj_cons (f := (op1 da fvF).v) (pe_fmt he.v) (fun σ ρ ρ1 x H Q ex hz r q => by
    obtain ⟨ra, ρa, e1, e2⟩ := R.bind_ok ex
    obtain ⟨e5, ep⟩ := R.opt_ok e2
    subst ep
    obtain ⟨dx, e3, e4⟩ := bind1 e5
    refine ⟨ρ, r, ?_⟩
    rw [e1]
    intro y H1 r1 s1 v1
    have vy := view_ok r1 v1 e3
    unfold fvF at e4
    split at e4
    · split at e4
      · cases e4
        exact .inl ⟨_, vy.str, by rw [← sl16]; exact hz, q H1 r1 s1⟩
      · cases e4
    · split at e4
      · rename_i hl
        cases e4
        exact .inr ⟨_, vy.int, hl, q H1 r1 s1⟩
      · cases e4
    · cases e4) hs
theorem fd_fstr (xc : XC c N sc n X) {v1 v2 : Expr} {rest : List Expr} {d : Den} {pos : Pos} (h : FJ c b W X (v1 :: v2 :: rest) d) : FD c b W X (.JoinedStr (v1 :: v2 :: rest) pos) (vDen fun ρ => (noEx (d.l ρ)).bind fun rs ρ1 => match strsR rs with
    | some z => if z.length ≤ SL then .ok (.d (.str z)) ρ1 else .bad
    | none => .bad) := by
  obtain ⟨ts, hj, ht⟩ := h
  refine fd_plain xc (PE.imp (pe_joined hj) fun σ H Q hq => ?_) fun _ => rfl
  obtain ⟨ρ, r, hq⟩ := hq
  dsimp only at hq
  cases el : d.l ρ with
  | bad => rw [el] at hq; exact hq.elim
  | ex e ρ1 => rw [el] at hq; exact hq.elim
  | ok rs ρ2 =>
    rw [el] at hq
    have hq : Post c b W σ (Rv c σ) ρ H (match strsR rs with
      | some z => if z.length ≤ SL then .ok (.d (.str z)) ρ2 else .bad
      | none => .bad) Q := hq
    split at hq
    · rename_i z ez
      split at hq
      · rename_i hz
        refine ht σ Str.empty ρ ρ2 rs z H _ el ez (by rw [Str.empty_append]; exact hz) r fun H2 r2 s2 => ?_
        rw [Str.empty_append]
        exact hq _ H2 r2 s2 (.str z)
      · exact hq.elim
    · exact hq.elim
end
end Fl
set_option Elab.async false
set_option linter.all false
set_option maxRecDepth 100000
set_option maxHeartbeats 4000000
/-! Layer F, part 10: calls. -/
namespace Fl
open PySem PySem.Spec PyProof.Rows L2 NdefX LamX

/-! ### what a call promises -/
structure ArgsOk (c : SC) (H : Hp) (vs : List V) (args : List SV) : Prop where
  len : vs.length = args.length
  at_ : ∀ (j : Nat) (sv : SV), args[j]? = some sv → ∃ x, vs[j]? = some x ∧ Sv c H x sv
  own : ∀ (j : Nat) (w : Bool) (o : MO), args[j]? = some (.m w o) → w = false
  apart : ∀ (i j : Nat) (w w' : Bool) (o o' : MO) (a : Addr), args[i]? = some (.m w o) → args[j]? = some (.m w' o') → vs[i]? = some (.ref a) → vs[j]? = some (.ref a) → i = j
  tabs : TabsN c.T H
structure AfterOk (c : SC) (H H' : Hp) (vs : List V) (args as : List SV) : Prop where
  len : as.length = args.length
  fr : ∀ a o, H a = some o → (∀ (j : Nat) (mo : MO), args[j]? = some (.m false mo) → vs[j]? ≠ some (.ref a)) → (∀ ps, o ≠ .tbl ps) → H' a = some o
  frT : ∀ a ps, H a = some (.tbl ps) → ∃ more, H' a = some (.tbl (ps ++ more))
  tabs : TabsN c.T H'
  mu : ∀ (j : Nat) (mo : MO) (a : Addr), args[j]? = some (.m false mo) → vs[j]? = some (.ref a) → ∃ o', as[j]? = some (.m false o') ∧ Mo c H' a o'
def Rv0 (c : SC) (H H' : Hp) (x : V) : RV → Prop
  | .d v => Rp c H' x v
  | .n o => ∃ a, x = .ref a ∧ Mo c H' a o ∧ H a = none
  | .sl _ => False
def CPost (c : SC) (H : Hp) (vs : List V) (args : List SV) (Q : VK) (E : XK) : CO → Prop
  | .ok r as => ∀ x H', AfterOk c H H' vs args as → Rv0 c H H' x r → Q x H'
  | .ex e as => ∀ cls d H', AfterOk c H H' vs args as → Ex c H' cls d e → E cls d H'
  | .bad => False
def spF (c : SC) (call : Call) (f : Nat) (caps : List D) : Sp := fun vs H Q E => ∃ args, ArgsOk c H vs args ∧ CPost c H vs args Q E (call f caps args)

/-! ### the arguments -/
inductive RvN (c : SC) (σ : L2.St) (H : Hp) : List V → List RV → Prop
  | nil : RvN c σ H [] []
  | d {x : V} {v : D} {xs : List V} {rs : List RV} : Rp c H x v → RvN c σ H xs rs → RvN c σ H (x :: xs) (.d v :: rs)
  | sl {x : V} {i : Nat} {xs : List V} {rs : List RV} : σ[i]? = some (some x) → RvN c σ H xs rs → RvN c σ H (x :: xs) (.sl i :: rs)
section
variable {X : Cx} {pins : List (Addr × Obj)} {s : Shared} {c : SC} {b : Bs} {σ : L2.St} {ρs ρ ρ' : Env} {Hs H H1 : Hp}
theorem RvN.pers (p : Pers H H1) : ∀ {xs : List V} {rs : List RV}, RvN c σ H xs rs → RvN c σ H1 xs rs
  | _, _, .nil => .nil
  | _, _, .d h t => .d (h.pers p) (RvN.pers p t)
  | _, _, .sl h t => .sl h (RvN.pers p t)
theorem RvN.len : ∀ {xs : List V} {rs : List RV}, RvN c σ H xs rs → xs.length = rs.length
  | _, _, .nil => rfl
  | _, _, .d _ t => by rw [List.length_cons, List.length_cons, RvN.len t]
  | _, _, .sl _ t => by rw [List.length_cons, List.length_cons, RvN.len t]
theorem RvN.get : ∀ {xs : List V} {rs : List RV} {j : Nat} {r : RV}, RvN c σ H xs rs → rs[j]? = some r → ∃ x, xs[j]? = some x ∧ ((∃ v, r = .d v ∧ Rp c H x v) ∨ ∃ i, r = .sl i ∧ σ[i]? = some (some x))
  | _, _, _, _, .nil, e => by simp at e
  | _, _, 0, _, .d h _, e => by simp at e; subst e; exact ⟨_, rfl, .inl ⟨_, rfl, h⟩⟩
  | _, _, 0, _, .sl h _, e => by simp at e; subst e; exact ⟨_, rfl, .inr ⟨_, rfl, h⟩⟩
  | _, _, j + 1, r, .d _ t, e => by
    obtain ⟨x, h1, h2⟩ := RvN.get (j := j) (r := r) t (by simpa using e)
    exact ⟨x, by simpa using h1, h2⟩
  | _, _, j + 1, r, .sl _ t, e => by
    obtain ⟨x, h1, h2⟩ := RvN.get (j := j) (r := r) t (by simpa using e)
    exact ⟨x, by simpa using h1, h2⟩
/-- the others, when one has been laid to rest -/
theorem RvL.gone (rs : ER c b σ ρs Hs) (r : ER c b σ ρ H) (st : Stp σ ρs Hs ρ H) {q : RV} {x : V} (P1 : Pers H H1) (kk : H1 = H ∨ (∀ b o, H b = some o → x ≠ .ref b → H1 b = some o) ∧ ((∃ o, q = .n o) ∨ ∃ (i : Nat) (o : MO), σ[i]? = some (some x) ∧ ρ[i]? = some (some (SV.m true o)))) {ys : List V} {ps : List RV}
    (hh : RvL c σ Hs H ys ps) : (∀ o, q = .n o → ∀ (j : Nat) o', ps[j]? = some (.n o') → ys[j]? ≠ some x) → RvL c σ Hs H1 ys ps := by
  induction hh with
  | nil => intro _; exact .nil
  | cons h' t' d' ih =>
    rename_i y p ys' ps'
    intro dd
    refine .cons ?_ (ih fun o eo j o' ej => dd o eo (j + 1) o' (by simpa using ej)) d'
    cases p with
    | d v => exact Rp.pers P1 h'
    | sl i => exact h'
    | n o' =>
      obtain ⟨a, ea, m, n⟩ := h'
      obtain ⟨u, eu, _⟩ := m.mut
      refine ⟨a, ea, m.stay ?_ P1, n⟩
      rcases kk with kk | ⟨k1, kk⟩
      · rw [kk]
      · refine (k1 a u eu fun z => ?_).trans eu.symm
        rcases kk with ⟨o, eo⟩ | ⟨i, o, e3, e4⟩
        · exact dd o eo 0 o' rfl (by rw [z, ea]; rfl)
        · exact Rv.apart (c := c) (b := b) (o' := o') rs r st e4 e3 ⟨a, z, m, n⟩
theorem bind_noex {α β : Type} {o : R α} {f : α → Env → R β} (h1 : ∀ e ρ, o ≠ .ex e ρ) (h2 : ∀ a ρ1 e ρ, f a ρ1 ≠ .ex e ρ) (e : Exn) (ρ : Env) : o.bind f ≠ .ex e ρ := by
  intro h
  cases o with
  | ok a ρ1 => exact h2 a ρ1 e ρ h
  | ex e' ρ1 => exact h1 e' ρ1 rfl
  | bad => cases h
theorem restA_noex {br : Nat → Bool} : ∀ {qs : List RV} {j : Nat} {ρ ρ' : Env} {e : Exn}, restA br j qs ρ ≠ .ex e ρ'
  | [], _, _, _, _, h => by cases h
  | q :: qs, j, ρ, ρ', e, h => by
    unfold restA at h
    split at h
    · exact bind_noex (fun _ _ => restA_noex) (fun _ _ _ _ z => by cases z) _ _ h
    · exact bind_noex (fun _ _ => toD_noex) (fun _ _ => bind_noex (fun _ _ => restA_noex) (fun _ _ _ _ z => by cases z)) _ _ h
theorem ghostA (rs : ER c b σ ρs Hs) {br : Nat → Bool} : ∀ {xs : List V} {qs : List RV} {j : Nat} {ρ : Env} {H : Hp} {ps : List RV}, Inv X pins σ H s → ER c b σ ρ H → Stp σ ρs Hs ρ H → RvL c σ Hs H xs qs → restA br j qs ρ = .ok ps ρ' →
    ∃ H', Inv X pins σ H' s ∧ ER c b σ ρ' H' ∧ Stp σ ρs Hs ρ' H' ∧ RvN c σ H' xs ps ∧ Pers H H'
  | _, _, j, ρ, H, ps, I, r, st, .nil, e => by
    have e : R.ok [] ρ = .ok ps ρ' := e
    cases e
    exact ⟨H, I, r, st, .nil, .refl H⟩
  | _, _, j, ρ, H, ps, I, r, st, .cons (x := x) (r := q) (xs := xs) (rs := qs) h t dj, e => by
    unfold restA at e
    split at e
    · rename_i i hb
      obtain ⟨qs', ρ1, e1, e⟩ := R.bind_ok e
      cases e
      obtain ⟨H2, I2, r2, st2, p2, P2⟩ := ghostA rs I r st t e1
      exact ⟨H2, I2, r2, st2, .sl h p2, P2⟩
    · obtain ⟨d, ρ1, e1, e⟩ := R.bind_ok e
      obtain ⟨qs', ρ2, e2, e⟩ := R.bind_ok e
      cases e
      obtain ⟨H1, I1, r1, st1, p1, P1, kk⟩ := ghostD I rs r st h e1
      have t1 : RvL c σ Hs H1 xs qs := RvL.gone rs r st P1 kk t dj
      obtain ⟨H2, I2, r2, st2, p2, P2⟩ := ghostA rs I1 r1 st1 t1 e2
      exact ⟨H2, I2, r2, st2, .d (Rp.pers P2 p1) p2, P1.trans P2⟩
theorem slotsR_nd : ∀ {qs : List RV} {i j k : Nat}, (slotsR qs).Nodup → qs[i]? = some (.sl k) → qs[j]? = some (.sl k) → i = j
  | [], _, _, _, _, h, _ => by simp at h
  | q :: qs, i, j, k, nd, h1, h2 => by
    have mem : ∀ {qs : List RV} {i k : Nat}, qs[i]? = some (.sl k) → k ∈ slotsR qs := by
      intro qs
      induction qs with
      | nil => intro i k h; simp at h
      | cons q qs ih =>
        intro i k h
        cases i with
        | zero => simp at h; subst h; exact List.mem_cons_self
        | succ i =>
          have z := ih (i := i) (k := k) (by simpa using h)
          cases q with
          | sl m => exact List.mem_cons_of_mem _ z
          | d v => exact z
          | n o => exact z
    have nd' : (slotsR qs).Nodup := by
      cases q with
      | sl m => exact (List.nodup_cons.mp nd).2
      | d v => exact nd
      | n o => exact nd
    cases i with
    | zero =>
      simp at h1
      subst h1
      cases j with
      | zero => rfl
      | succ j => exact absurd (mem (by simpa using h2)) (List.nodup_cons.mp nd).1
    | succ i =>
      cases j with
      | zero =>
        simp at h2
        subst h2
        exact absurd (mem (by simpa using h1)) (List.nodup_cons.mp nd).1
      | succ j => rw [slotsR_nd (i := i) (j := j) (k := k) nd' (by simpa using h1) (by simpa using h2)]
theorem readA_len : ∀ {qs : List RV} {vs : List SV}, readA ρ qs = some vs → vs.length = qs.length
  | [], vs, h => by cases h; rfl
  | q :: qs, vs, h => by
    unfold readA at h
    have go : ∀ {a : SV}, (readA ρ qs).map (a :: ·) = some vs → vs.length = (q :: qs).length := fun {a} h => by
      cases e : readA ρ qs with
      | none => rw [e] at h; cases h
      | some vs' => rw [e] at h; cases h; rw [List.length_cons, List.length_cons, readA_len e]
    split at h
    · exact go h
    · split at h
      · exact go h
      · exact go h
      · cases h
    · cases h
theorem readA_at : ∀ {qs : List RV} {vs : List SV} {j : Nat} {sv : SV}, readA ρ qs = some vs → vs[j]? = some sv → ∃ q, qs[j]? = some q ∧ ((∃ v, q = .d v ∧ sv = .d v) ∨ (∃ i v, q = .sl i ∧ ρ[i]? = some (some (SV.d v)) ∧ sv = .d v) ∨ ∃ i w o, q = .sl i ∧ ρ[i]? = some (some (SV.m w o)) ∧ sv = .m false o)
  | [], vs, j, sv, h, e => by cases h; simp at e
  | q :: qs, vs, j, sv, h, e => by
    unfold readA at h
    have go : ∀ {a : SV}, (readA ρ qs).map (a :: ·) = some vs → (vs[0]? = some a ∧ ∀ j, vs[j + 1]? = some sv → ∃ q, qs[j]? = some q ∧ ((∃ v, q = .d v ∧ sv = .d v) ∨ (∃ i v, q = .sl i ∧ ρ[i]? = some (some (SV.d v)) ∧ sv = .d v) ∨ ∃ i w o, q = .sl i ∧ ρ[i]? = some (some (SV.m w o)) ∧ sv = .m false o)) := fun {a} h => by
      cases e1 : readA ρ qs with
      | none => rw [e1] at h; cases h
      | some vs' => rw [e1] at h; cases h; exact ⟨rfl, fun j hj => readA_at e1 (by simpa using hj)⟩
    split at h
    · rename_i v
      obtain ⟨h0, hs⟩ := go h
      cases j with
      | zero => rw [h0] at e; cases e; exact ⟨_, rfl, .inl ⟨v, rfl, rfl⟩⟩
      | succ j => obtain ⟨q', e1, e2⟩ := hs j e; exact ⟨q', by simpa using e1, e2⟩
    · rename_i i
      split at h
      · rename_i w o ei
        obtain ⟨h0, hs⟩ := go h
        cases j with
        | zero => rw [h0] at e; cases e; exact ⟨_, rfl, .inr (.inr ⟨i, w, o, rfl, ei, rfl⟩)⟩
        | succ j => obtain ⟨q', e1, e2⟩ := hs j e; exact ⟨q', by simpa using e1, e2⟩
      · rename_i v ei
        obtain ⟨h0, hs⟩ := go h
        cases j with
        | zero => rw [h0] at e; cases e; exact ⟨_, rfl, .inr (.inl ⟨i, v, rfl, ei, rfl⟩)⟩
        | succ j => obtain ⟨q', e1, e2⟩ := hs j e; exact ⟨q', by simpa using e1, e2⟩
      · cases h
    · cases h
theorem args_ok (r : ER c b σ ρ H) {xs : List V} {qs : List RV} {args : List SV} (n : RvN c σ H xs qs) (nd : (slotsR qs).Nodup) (e : readA ρ qs = some args) : ArgsOk c H xs args := by
  refine ⟨by rw [n.len, readA_len e], fun j sv h => ?_, fun j w o h => ?_, fun i j w w' o o' a h1 h2 e1 e2 => ?_, r.tabs⟩
  · obtain ⟨q, eq, hq⟩ := readA_at e h
    obtain ⟨x, ex, hx⟩ := n.get eq
    refine ⟨x, ex, ?_⟩
    rcases hq with ⟨v, rfl, rfl⟩ | ⟨i, v, rfl, ei, rfl⟩ | ⟨i, w, o, rfl, ei, rfl⟩
    · rcases hx with ⟨v', e', hx⟩ | ⟨i, e', _⟩
      · cases e'; exact hx
      · cases e'
    · rcases hx with ⟨v', e', hx⟩ | ⟨i', e', hx⟩
      · cases e'
      · cases e'
        obtain ⟨x', f1, f2⟩ := r.slot i _ ei
        rw [hx] at f1
        cases f1
        exact f2
    · rcases hx with ⟨v', e', hx⟩ | ⟨i', e', hx⟩
      · cases e'
      · cases e'
        obtain ⟨x', f1, f2⟩ := r.slot i _ ei
        rw [hx] at f1
        cases f1
        exact f2
  · obtain ⟨q, _, hq⟩ := readA_at e h
    rcases hq with ⟨v, _, z⟩ | ⟨i, v, _, _, z⟩ | ⟨i, w', o', _, _, z⟩
    · cases z
    · cases z
    · cases z; rfl
  · obtain ⟨q, eq, hq⟩ := readA_at e h1
    obtain ⟨q', eq', hq'⟩ := readA_at e h2
    rcases hq with ⟨v, _, z⟩ | ⟨_, v, _, _, z⟩ | ⟨k, w1, o1, rfl, ek, z⟩
    · cases z
    · cases z
    rcases hq' with ⟨v, _, z'⟩ | ⟨_, v, _, _, z'⟩ | ⟨k', w2, o2, rfl, ek', z'⟩
    · cases z'
    · cases z'
    obtain ⟨x, f1, hx⟩ := n.get eq
    obtain ⟨x', f2, hx'⟩ := n.get eq'
    rw [e1] at f1
    cases f1
    rw [e2] at f2
    cases f2
    rcases hx with ⟨_, z, _⟩ | ⟨_, z, hx⟩
    · cases z
    cases z
    rcases hx' with ⟨_, z, _⟩ | ⟨_, z, hx'⟩
    · cases z
    cases z
    have ekk := r.apart k k' w1 w2 o1 o2 a ek ek' hx hx'
    subst ekk
    exact slotsR_nd nd eq eq'
/-! ### what comes back -/
theorem tb_len : ∀ {qs : List RV} {as : List SV} {ρ : Env}, (takeBack qs as ρ).length = ρ.length
  | [], _, _ => by unfold takeBack; rfl
  | _ :: _, [], _ => by unfold takeBack; rfl
  | q :: qs, a :: as, ρ => by
    unfold takeBack
    split
    · split
      · rw [tb_len, List.length_set]
      · exact tb_len
    · exact tb_len
theorem tb_keep : ∀ {qs : List RV} {as : List SV} {ρ : Env} {i : Nat}, (∀ w o, ρ[i]? ≠ some (some (.m w o))) → (takeBack qs as ρ)[i]? = ρ[i]?
  | [], _, _, _, _ => by unfold takeBack; rfl
  | _ :: _, [], _, _, _ => by unfold takeBack; rfl
  | q :: qs, a :: as, ρ, i, h => by
    unfold takeBack
    split
    · rename_i k w' o
      split
      · rename_i w o0 ek
        have hik : k ≠ i := fun z => by subst z; exact h _ _ ek
        have e : (ρ.set k (some (.m w o)))[i]? = ρ[i]? := List.getElem?_set_ne hik
        rw [tb_keep (fun w1 o1 z => h w1 o1 (by rw [← e]; exact z)), e]
      · exact tb_keep h
    · exact tb_keep h
theorem tb_other : ∀ {qs : List RV} {as : List SV} {ρ : Env} {i : Nat}, (∀ j : Nat, qs[j]? ≠ some (.sl i)) → (takeBack qs as ρ)[i]? = ρ[i]?
  | [], _, _, _, _ => by unfold takeBack; rfl
  | _ :: _, [], _, _, _ => by unfold takeBack; rfl
  | q :: qs, a :: as, ρ, i, h => by
    have h' : ∀ j : Nat, qs[j]? ≠ some (.sl i) := fun j z => h (j + 1) (by simpa using z)
    unfold takeBack
    split
    · rename_i k w' o
      have hik : k ≠ i := fun z => h 0 (by rw [z]; rfl)
      split
      · rw [tb_other h', List.getElem?_set_ne hik]
      · exact tb_other h'
    · exact tb_other h'
theorem tb_at : ∀ {qs : List RV} {as : List SV} {ρ : Env} {i j : Nat} {w w' : Bool} {o o0 : MO}, (slotsR qs).Nodup → qs[j]? = some (.sl i) → ρ[i]? = some (some (.m w o0)) → as[j]? = some (.m w' o) → (takeBack qs as ρ)[i]? = some (some (.m w o))
  | [], _, _, _, _, _, _, _, _, _, h, _, _ => by simp at h
  | _ :: _, [], _, _, _, _, _, _, _, _, _, _, h => by simp at h
  | q :: qs, a :: as, ρ, i, j, w, w', o, o0, nd, h, e, ea => by
    have nd' : (slotsR qs).Nodup := by
      cases q with
      | sl m => exact (List.nodup_cons.mp nd).2
      | d v => exact nd
      | n o => exact nd
    cases j with
    | zero =>
      simp at h ea
      subst h ea
      have hi : i < ρ.length := (List.getElem?_eq_some_iff.mp e).1
      unfold takeBack
      dsimp only
      rw [e]
      dsimp only
      rw [tb_other, List.getElem?_set_self hi]
      intro k z
      have := slotsR_nd (i := 0) (j := k + 1) (k := i) nd rfl (by simpa using z)
      cases this
    | succ j =>
      have h' : qs[j]? = some (.sl i) := by simpa using h
      have ea' : as[j]? = some (.m w' o) := by simpa using ea
      unfold takeBack
      split
      · rename_i k w1 o1
        have hik : k ≠ i := fun z => by
          subst z
          have := slotsR_nd (i := 0) (j := j + 1) (k := k) nd rfl (by simpa using h')
          cases this
        split
        · exact tb_at nd' h' (by rw [List.getElem?_set_ne hik]; exact e) ea'
        · exact tb_at nd' h' e ea'
      · exact tb_at nd' h' e ea'
theorem after_ok (r : ER c b σ ρ H) {xs : List V} {qs : List RV} {args as : List SV} (n : RvN c σ H xs qs) (nd : (slotsR qs).Nodup) (e : readA ρ qs = some args) (af : AfterOk c H H1 xs args as) : ER c b σ (takeBack qs as ρ) H1 ∧ Stp σ ρ H (takeBack qs as ρ) H1 := by
  -- an argument's object stands in a slot
  have argS : ∀ (j : Nat) (mo : MO) (a : Addr), args[j]? = some (.m false mo) → xs[j]? = some (.ref a) → ∃ i w, qs[j]? = some (.sl i) ∧ ρ[i]? = some (some (SV.m w mo)) ∧ σ[i]? = some (some (.ref a)) := fun j mo a h hx => by
    obtain ⟨q, eq, hq⟩ := readA_at e h
    rcases hq with ⟨v, _, z⟩ | ⟨_, v, _, _, z⟩ | ⟨k, w1, o1, rfl, ek, z⟩
    · cases z
    · cases z
    cases z
    obtain ⟨x, f1, hx'⟩ := n.get eq
    rw [hx] at f1
    cases f1
    rcases hx' with ⟨_, z, _⟩ | ⟨_, z, hx'⟩
    · cases z
    cases z
    exact ⟨k, w1, eq, ek, hx'⟩
  -- a slot with an object: an argument, or not
  have slotA : ∀ (i : Nat) (w : Bool) (mo : MO), ρ[i]? = some (some (SV.m w mo)) → (∃ (j : Nat) (a : Addr) (o' : MO), qs[j]? = some (.sl i) ∧ xs[j]? = some (.ref a) ∧ σ[i]? = some (some (.ref a)) ∧ as[j]? = some (.m false o') ∧ Mo c H1 a o' ∧ (takeBack qs as ρ)[i]? = some (some (.m w o'))) ∨
      ((∀ j : Nat, qs[j]? ≠ some (.sl i)) ∧ (takeBack qs as ρ)[i]? = some (some (.m w mo))) := fun i w mo h => by
    by_cases hj : ∃ j : Nat, qs[j]? = some (.sl i)
    · obtain ⟨j, hj⟩ := hj
      left
      have hl : j < args.length := by rw [readA_len e]; exact (List.getElem?_eq_some_iff.mp hj).1
      obtain ⟨sv, hsv⟩ : ∃ sv, args[j]? = some sv := ⟨args[j], List.getElem?_eq_getElem hl⟩
      obtain ⟨q, eq, hq⟩ := readA_at e hsv
      rw [hj] at eq
      cases eq
      rcases hq with ⟨v, z, _⟩ | ⟨k, v, z, ek, _⟩ | ⟨k, w1, o1, z, ek, z'⟩
      · cases z
      · cases z; rw [h] at ek; cases ek
      cases z
      rw [h] at ek
      cases ek
      obtain ⟨x, f1, hx⟩ := n.get hj
      rcases hx with ⟨_, z, _⟩ | ⟨_, z, hx⟩
      · cases z
      cases z
      obtain ⟨x', f2, a, ea, _⟩ := r.slot i _ h
      rw [hx] at f2
      cases f2
      subst ea
      subst z'
      obtain ⟨o', g1, g2⟩ := af.mu j mo a hsv f1
      exact ⟨j, a, o', hj, f1, hx, g1, g2, tb_at nd hj h g1⟩
    · right
      have hj' : ∀ j : Nat, qs[j]? ≠ some (.sl i) := fun j z => hj ⟨j, z⟩
      exact ⟨hj', by rw [tb_other hj']; exact h⟩
  have back : ∀ (i : Nat) (w : Bool) (mo : MO), (takeBack qs as ρ)[i]? = some (some (SV.m w mo)) → ∃ o', ρ[i]? = some (some (SV.m w o')) := fun i w mo h => by
    by_cases hm : ∃ w' o', ρ[i]? = some (some (SV.m w' o'))
    · obtain ⟨w', o', hm⟩ := hm
      rcases slotA i w' o' hm with ⟨j, a, o2, _, _, _, _, _, h2⟩ | ⟨_, h2⟩
      · rw [h] at h2; cases h2; exact ⟨o', hm⟩
      · rw [h] at h2; cases h2; exact ⟨_, hm⟩
    · rw [tb_keep fun w' o' z => hm ⟨w', o', z⟩] at h
      exact ⟨mo, h⟩
  have fr : ∀ a o, H a = some o → ¬ MutAt σ ρ a → (∀ ps, o ≠ .tbl ps) → H1 a = some o := fun a o h nm nt => af.fr a o h (fun j mo h1 h2 => by
    obtain ⟨i, w, _, e2, e3⟩ := argS j mo a h1 h2
    exact nm ⟨i, w, mo, e2, e3⟩) nt
  have P : Pers H H1 := fun a o h hp => fr a o h (r.notMut h hp) (per_tbl hp)
  have other : ∀ (i : Nat) (w : Bool) (mo : MO) (a : Addr), ρ[i]? = some (some (SV.m w mo)) → σ[i]? = some (some (.ref a)) → (∀ j : Nat, qs[j]? ≠ some (.sl i)) → H1 a = H a := fun i w mo a h hs hj => by
    obtain ⟨u, eu, _, _, nt⟩ := r.mutAt ⟨i, w, mo, h, hs⟩
    rw [eu]
    refine af.fr a u eu (fun j mo' h1 h2 => ?_) nt
    obtain ⟨i', w', e1, e2, e3⟩ := argS j mo' a h1 h2
    have := r.apart i i' w w' mo mo' a h e2 hs e3
    subst this
    exact hj j e1
  refine ⟨⟨by rw [tb_len]; exact r.len, fun i sv h => ?_, fun i j w w' o o' a h1 h2 e1 e2 => ?_, fun i o a h hs => ?_, fun i o a h hs => ?_, fun i a hp => ?_, fun a o h nm nt => ?_, fun a ps h => ?_, af.tabs⟩, ⟨fr, back, fun a h => ?_⟩⟩
  · by_cases hm : ∃ w o, ρ[i]? = some (some (SV.m w o))
    · obtain ⟨w, o, hm⟩ := hm
      rcases slotA i w o hm with ⟨j, a, o2, _, _, hs, _, mo, h2⟩ | ⟨hj, h2⟩
      · rw [h] at h2; cases h2; exact ⟨_, hs, a, rfl, mo⟩
      · rw [h] at h2
        cases h2
        obtain ⟨x, e1, a, ea, mo⟩ := r.slot i _ hm
        subst ea
        exact ⟨_, e1, a, rfl, mo.stay (other i w o a hm e1 hj) P⟩
    · rw [tb_keep fun w' o' z => hm ⟨w', o', z⟩] at h
      obtain ⟨x, e1, q⟩ := r.slot i sv h
      refine ⟨x, e1, ?_⟩
      cases sv with
      | d v => exact Rp.pers P q
      | m w o => exact absurd ⟨w, o, h⟩ hm
  · obtain ⟨o1, h1⟩ := back _ _ _ h1
    obtain ⟨o2, h2⟩ := back _ _ _ h2
    exact r.apart i j w w' o1 o2 a h1 h2 e1 e2
  · obtain ⟨o1, h⟩ := back _ _ _ h
    exact r.own i o1 a h hs
  · obtain ⟨o1, h⟩ := back _ _ _ h
    exact r.par i o1 a h hs
  · obtain ⟨⟨o, e1⟩, e2⟩ := r.parB i a hp
    refine ⟨?_, e2⟩
    rcases slotA i false o e1 with ⟨_, _, o', _, _, _, _, _, h⟩ | ⟨_, h⟩
    · exact ⟨o', h⟩
    · exact ⟨o, h⟩
  · refine fr a o (r.fr a o h nm nt) (fun ⟨i, w, mo, e1, e2⟩ => ?_) nt
    cases w with
    | true => rw [r.own i mo a e1 e2] at h; cases h
    | false => exact nm i (r.par i mo a e1 e2)
  · obtain ⟨more, h⟩ := r.frT a ps h
    obtain ⟨more2, h⟩ := af.frT a _ h
    exact ⟨more ++ more2, by rw [h, Array.append_assoc]⟩
  · cases q : H a with
    | none => rfl
    | some o =>
      exfalso
      by_cases hm : MutAt σ ρ a
      · obtain ⟨i, w, mo, e1, e2⟩ := hm
        rcases slotA i w mo e1 with ⟨j, a', o', _, _, hs, _, mo', _⟩ | ⟨hj, _⟩
        · rw [e2] at hs
          cases hs
          obtain ⟨u, eu, _⟩ := mo'.mut
          rw [h] at eu
          cases eu
        · rw [other i w mo a e1 e2 hj, q] at h
          cases h
      · by_cases ht : ∃ ps, o = .tbl ps
        · obtain ⟨ps, rfl⟩ := ht
          obtain ⟨more, z⟩ := af.frT a ps q
          rw [h] at z
          cases z
        · rw [fr a o q hm fun ps z => ht ⟨ps, z⟩] at h
          cases h
/-- a call's own ghost work: from what is wanted behind it to the callee's promise -/
theorem calling_run' {W : WX} {Q : VK} {P : PI} {call : Call} {f : Nat} {caps : List D} {xs : List V} {rs : List RV} (I : Inv X pins σ H s) (r0 : ER c b σ ρs Hs) (r : ER c b σ ρ H) (st : Stp σ ρs Hs ρ H) (v : RvL c σ Hs H xs rs)
    (hq : Post c b W σ (Rv c σ) ρs Hs (calling P call f caps rs ρ) Q) : ∃ H2 qs ρ1 args, restA (P.byRef f) 0 rs ρ = .ok qs ρ1 ∧ readA ρ1 qs = some args ∧ Inv X pins σ H2 s ∧ ArgsOk c H2 xs args ∧ CPost c H2 xs args Q (fun cls d H' => W cls d σ H') (call f caps args) := by
  unfold calling at hq
  cases e1 : restA (P.byRef f) 0 rs ρ with
  | bad => rw [e1] at hq; exact hq.elim
  | ex e ρ1 => exact absurd e1 restA_noex
  | ok qs ρ1 =>
    rw [e1] at hq
    have hq : Post c b W σ (Rv c σ) ρs Hs (if (slotsR qs).Nodup then (match readA ρ1 qs with
      | some vs => back qs ρ1 (call f caps vs)
      | none => .bad) else .bad) Q := hq
    split at hq
    · rename_i nd
      split at hq
      · rename_i args ea
        obtain ⟨H2, I2, r2, st2, n2, P2⟩ := ghostA r0 I r st v e1
        refine ⟨H2, qs, ρ1, args, rfl, ea, I2, args_ok r2 n2 nd ea, ?_⟩
        cases ec : call f caps args with
        | bad => rw [ec] at hq; exact hq
        | ok q as =>
          rw [ec] at hq
          intro x H' af hx
          obtain ⟨r3, s3⟩ := after_ok r2 n2 nd ea af
          refine hq x H' r3 (st2.trans s3) ?_
          cases q with
          | d v => exact hx
          | n o => obtain ⟨a, e, m, n⟩ := hx; exact ⟨a, e, m, st2.tr a n⟩
          | sl i => exact hx.elim
        | ex e as =>
          rw [ec] at hq
          intro cls d H' af hx
          obtain ⟨r3, s3⟩ := after_ok r2 n2 nd ea af
          exact hq cls d H' r3 (st2.trans s3) hx
      · exact hq.elim
    · exact hq.elim
theorem calling_run {W : WX} {Q : VK} {P : PI} {call : Call} {f : Nat} {caps : List D} {xs : List V} {rs : List RV} (I : Inv X pins σ H s) (r0 : ER c b σ ρs Hs) (r : ER c b σ ρ H) (st : Stp σ ρs Hs ρ H) (v : RvL c σ Hs H xs rs)
    (hq : Post c b W σ (Rv c σ) ρs Hs (calling P call f caps rs ρ) Q) : ∃ H2, Inv X pins σ H2 s ∧ spF c call f caps xs H2 Q (fun cls d H' => W cls d σ H') := by
  obtain ⟨H2, qs, ρ1, args, _, _, I2, a2, p2⟩ := calling_run' I r0 r st v hq
  exact ⟨H2, I2, args, a2, p2⟩
/-- a new object handed alone -/
theorem callingN_run {W : WX} {Q : VK} {P : PI} {call : Call} {f : Nat} {xs : List V} {rs : List RV} (I : Inv X pins σ H s) (r0 : ER c b σ ρs Hs) (r : ER c b σ ρ H) (st : Stp σ ρs Hs ρ H) (v : RvL c σ Hs H xs rs)
    (hq : Post c b W σ (Rv c σ) ρs Hs (callingN P call f rs ρ) Q) : ∃ H2, Inv X pins σ H2 s ∧ spF c call f [] xs H2 Q (fun cls d H' => W cls d σ H') := by
  unfold callingN at hq
  split at hq
  · rename_i o
    split at hq
    · cases v with
      | cons h t _ =>
        rename_i x xs'
        cases t with
        | nil =>
          obtain ⟨a, rfl, mo, hn⟩ := h
          obtain ⟨u, eu, _, up, nt⟩ := mo.mut
          have nb : ∀ {a'}, a' = a → Hs a' = none := fun {a'} e => by rw [e]; exact hn
          have ao : ArgsOk c H [.ref a] [.m false o] := by
            refine ⟨rfl, fun j sv e => ?_, fun j w o' e => ?_, fun i j w w' o1 o2 a' e1 e2 _ _ => ?_, r.tabs⟩
            · cases j with
              | zero => cases e; exact ⟨_, rfl, a, rfl, mo⟩
              | succ j => simp at e
            · cases j with
              | zero => cases e; rfl
              | succ j => simp at e
            · cases i with
              | zero =>
                cases j with
                | zero => rfl
                | succ j => simp at e2
              | succ i => simp at e1
          refine ⟨H, I, [.m false o], ao, ?_⟩
          have notA : ∀ {H' : Hp} {as : List SV}, AfterOk c H H' [.ref a] [.m false o] as → ∀ b' o', b' ≠ a → H b' = some o' → (∀ ps, o' ≠ .tbl ps) → H' b' = some o' := fun {H' as} af b' o' ne e q => af.fr b' o' e (fun j mo' h1 h2 => by
            cases j with
            | zero => cases h2; exact ne rfl
            | succ j => simp at h1) q
          have fin : ∀ {H' : Hp} {as : List SV}, AfterOk c H H' [.ref a] [.m false o] as → ER c b σ ρ H' ∧ Stp σ ρs Hs ρ H' := fun {H' as} af => by
            have na := notA af
            have fresh : ∀ (i : Nat) (w : Bool) (o' : MO) (a' : Addr), ρ[i]? = some (some (SV.m w o')) → σ[i]? = some (some (.ref a')) → a' ≠ a := fun i w o' a' e1 e2 z => by
              subst z
              exact r0.freshMut hn (st.mut ⟨i, w, o', e1, e2⟩)
            have P1 : Pers H H' := fun b' o' e hp => na b' o' (fun z => by rw [z, eu] at e; cases e; rw [up] at hp; cases hp) e (per_tbl hp)
            refine ⟨⟨r.len, fun i sv h => ?_, r.apart, r.own, r.par, r.parB, fun b' o' h q1 q2 => ?_, fun b' ps h => ?_, af.tabs⟩, ⟨fun b' o' h nm q => ?_, st.sh, fun b' h => ?_⟩⟩
            · obtain ⟨x, e1, q⟩ := r.slot i sv h
              refine ⟨x, e1, ?_⟩
              cases sv with
              | d v => exact Rp.pers P1 q
              | m w o' =>
                obtain ⟨a', ea, q⟩ := q
                obtain ⟨u', eu', _, _, nt'⟩ := q.mut
                subst ea
                exact ⟨a', rfl, q.stay ((na a' u' (fresh i w o' a' h e1) eu' nt').trans eu'.symm) P1⟩
            · exact na b' o' (fun z => by rw [z, r0.fresh0 hn] at h; cases h) (r.fr b' o' h q1 q2) q2
            · obtain ⟨more, e⟩ := r.frT b' ps h
              obtain ⟨more2, e2⟩ := af.frT b' _ e
              exact ⟨more ++ more2, by rw [e2, Array.append_assoc]⟩
            · exact na b' o' (fun z => by rw [z, hn] at h; cases h) (st.fr b' o' h nm q) q
            · refine st.tr b' ?_
              cases q : H b' with
              | none => rfl
              | some o' =>
                exfalso
                by_cases z : b' = a
                · subst z
                  obtain ⟨o2, _, m2⟩ := af.mu 0 o b' rfl rfl
                  obtain ⟨u2, eu2, _⟩ := m2.mut
                  rw [h] at eu2
                  cases eu2
                · by_cases ht : ∃ ps, o' = .tbl ps
                  · obtain ⟨ps, rfl⟩ := ht
                    obtain ⟨more, e⟩ := af.frT b' ps q
                    rw [h] at e
                    cases e
                  · rw [na b' o' z q fun ps e => ht ⟨ps, e⟩] at h
                    cases h
          cases ec : call f [] [.m false o] with
          | bad => rw [ec] at hq; exact hq
          | ok q as =>
            rw [ec] at hq
            intro x H' af hx
            obtain ⟨r3, s3⟩ := fin af
            refine hq x H' r3 s3 ?_
            cases q with
            | d v => exact hx
            | n o' => obtain ⟨a', e, m, n⟩ := hx; exact ⟨a', e, m, st.tr a' n⟩
            | sl i => exact hx.elim
          | ex e as =>
            rw [ec] at hq
            intro cls d H' af hx
            obtain ⟨r3, s3⟩ := fin af
            exact hq cls d H' r3 s3 hx
    · exact calling_run I r0 r st v hq
  · exact calling_run I r0 r st v hq
end
end Fl
set_option Elab.async false
set_option linter.all false
set_option maxRecDepth 100000
set_option maxHeartbeats 4000000
/-! Layer F, part 11: calls, attributes, own ==, new instances. -/
namespace Fl
open PySem PySem.Spec PyProof.Rows L2 NdefX LamX

abbrev KwT := List (Nat × Nat × List Str × List Nat)
/-- a def at work -/
structure DefOk (c : SC) (kwT : KwT) (call : Call) (m : Nat) (k : Nat) (ps : List Str) : Prop where
  fn : ∃ fd, FnOk c.P c.w c.K c.mg c.base (L2.CX c.P c.w) m (c.fnA k) fd ps (spF c call k []) ∧ Binds c.K fd ps [] ∧
    ∀ n ks p, (k, n, ks, p) ∈ kwT → ∀ (s : Shared) (us ws : List Value), us.length = n → ws.length = ks.length → ∃ xs, pick (us ++ ws) p = some xs ∧ BindsTo s fd ⟨us, ks.zip ws⟩ (ps.zip xs)
  kp : PySem.W.keepIn c.K (.ref (c.fnA k)) = true
  isF : PySem.W.isFn c.K (.ref (c.fnA k)) = true
section
variable {X : Cx} {pins : List (Addr × Obj)} {s : Shared} {σ : L2.St} {H : Hp} {c : SC} {b : Bs} {W : WX} {N : List Str} {sc : Scope} {n m : Nat} {kwT : KwT} {call : Call}
abbrev PassW (X : Cx) (W : WX) : Prop := ∀ σ, PassesAt (L2.CX X.prog X.w) X σ (fun cls d H' => W cls d σ H')
theorem run_res {P : Program} {w : World} {A : Around} {f : Value} {args : Args} {Q : VK} {E : XK} (I : Inv X pins σ H s) (hx : PassesAt (L2.CX X.prog X.w) X σ E) {r : Result} {s' : Shared} (hq : CR (L2.CX X.prog X.w) X.stack X.prog X.w H s Q E r s') :
    (match r with | .ok (.ret v) => EP X pins σ Q v s' | .ok _ => False | .error e => X.xe e s') := by
  cases r with
  | error e => exact hx pins H s e s' I hq
  | ok fl =>
    cases fl with
    | ret u => exact I.after hq
    | next => exact False.elim hq
    | brk => exact False.elim hq
    | cont => exact False.elim hq
theorem DefOk.cast (D : DefOk c kwT call m k ps) (xc : XC c N sc n X) : ∃ fd, FnOk X.prog X.w X.K X.mg X.base (L2.CX X.prog X.w) m (c.fnA k) fd ps (spF c call k []) ∧ Binds X.K fd ps [] ∧
    ∀ n ks p, (k, n, ks, p) ∈ kwT → ∀ (s : Shared) (us ws : List Value), us.length = n → ws.length = ks.length → ∃ xs, pick (us ++ ws) p = some xs ∧ BindsTo s fd ⟨us, ks.zip ws⟩ (ps.zip xs) := by
  rw [xc.prog, xc.w, xc.K, xc.mg, xc.base]
  exact D.fn
theorem run_def {k : Nat} {ps : List Str} (D : DefOk c kwT call m k ps) (xc : XC c N sc n X) (hm : m ≤ n) (hx : PassW X W) {Q : VK} {us : List Value} {vs : List V} (I : Inv X pins σ H s) (r : Vals vs us) (h : spF c call k [] vs H Q (fun cls d H' => W cls d σ H')) :
    wpAny (model X.prog X.w) X.A (PySem.call (.ref (c.fnA k)) us) (EP X pins σ Q) X.xe s := by
  obtain ⟨fd, F, hb, _⟩ := D.cast xc
  exact run_fnS (E := fun σ cls d H' => W cls d σ H') F (xc.room.mono hm) hb (hx σ) I r h
/-- the arguments' outcome, for a call -/
theorem arg_imp {f : Env → R (List RV)} {g : List RV → Env → R RV} {H0 : Hp} {Q : VK} (hq : tF c b W (fun ρ => (f ρ).bind g) σ H0 Q) :
    tFL c b W f σ H0 (fun xs H1 => ∃ ρs ρ rs, ER c b σ ρs H0 ∧ ER c b σ ρ H1 ∧ Stp σ ρs H0 ρ H1 ∧ RvL c σ H0 H1 xs rs ∧ f ρs = .ok rs ρ ∧ Post c b W σ (Rv c σ) ρs H0 (g rs ρ) Q) := by
  obtain ⟨ρ, r, hq⟩ := hq
  have hq : Post c b W σ (Rv c σ) ρ H0 ((f ρ).bind g) Q := hq
  refine ⟨ρ, r, ?_⟩
  cases ef : f ρ with
  | bad => rw [ef] at hq; exact hq
  | ex e ρ1 => rw [ef] at hq; exact hq
  | ok rs ρ1 =>
    rw [ef] at hq
    exact fun xs H1 r1 s1 v1 => ⟨ρ, ρ1, rs, r, r1, s1, v1, ef, hq⟩
theorem fd_call (xc : XC c N sc n X) {P : PI} {k : Nat} {ps : List Str} (D : DefOk c kwT call m k ps) (hm : m ≤ n) (hx : PassW X W) {x : Str} {p pos : Pos} {e : Expr} {es : List Expr} {d : Den} (hg : sc.names.lookup x = some .globalImplicit) (hmg : c.mg x = some (.ref (c.fnA k))) (hdb : (x == ("__debug__" : Str)) = false)
    (hs : (e :: es).all notStar = true) (ha : PA X (e :: es) (tFL c b W d.l)) : FD c b W X (.Call (.Name x p) (e :: es) [] pos) (vDen fun ρ => (d.l ρ).bind fun rs ρ1 => callingN P call k rs ρ1) := by
  have hs' := hs
  rw [List.all_cons, Bool.and_eq_true] at hs'
  have hg' : Gl X x := by show X.env.scope.names.lookup x = _; rw [xc.sc]; exact hg
  refine fd_plain xc ⟨fun pins s σ H Q I h => ?_⟩ fun _ => rfl
  refine wpAny_Call_Name_kw (ld_glob I hg' (by rw [xc.mg]; exact hmg) ?_ hdb)
  refine PySem.W.callWith_K (h₀ := X.base) I.ok.mod.kin (by rw [xc.K]; exact D.kp) (thn (ha.run pos pins s σ H _ I (arg_imp h)) fun us s1 ⟨vs, H1, I1, r, ρs, ρ, rs, r0, r1, st, v, _, q⟩ => ⟨I1.kIn, ?_⟩) (star_cons hs'.1) (backTo_plain hs'.2)
  obtain ⟨H2, I2, sp⟩ := callingN_run I1 r0 r1 st v q
  exact run_def D xc hm hx I2 r sp
theorem fd_call0 (xc : XC c N sc n X) {P : PI} {k : Nat} {ps : List Str} (D : DefOk c kwT call m k ps) (hm : m ≤ n) (hx : PassW X W) {x : Str} {p pos : Pos} (hg : sc.names.lookup x = some .globalImplicit) (hmg : c.mg x = some (.ref (c.fnA k))) (hdb : (x == ("__debug__" : Str)) = false) :
    FD c b W X (.Call (.Name x p) [] [] pos) (vDen fun ρ => (R.ok [] ρ).bind fun rs ρ1 => callingN P call k rs ρ1) := by
  have hg' : Gl X x := by show X.env.scope.names.lookup x = _; rw [xc.sc]; exact hg
  refine fd_plain xc ⟨fun pins s σ H Q I h => ?_⟩ fun _ => rfl
  refine wpAny_Call_Name_kw (ld_glob I hg' (by rw [xc.mg]; exact hmg) ?_ hdb)
  obtain ⟨ρ, r, hq⟩ := h
  obtain ⟨H2, I2, sp⟩ := callingN_run (P := P) (call := call) (f := k) I r r (.refl ..) .nil hq
  exact PySem.W.callWith_K0 I.kIn (by rw [xc.K]; exact D.kp) (run_def (us := []) D xc hm hx I2 .nil sp)
/-! ### keywords -/
def kwOk : Keyword → Bool
  | ⟨some _, _, _⟩ => true
  | _ => false
def kwNames (ks : List Keyword) : List Str := ks.filterMap (·.1)
theorem pick_rel {p : List Nat} : ∀ {vs : List V} {us xs : List Value}, Vals vs us → pick us p = some xs → ∃ ws, pick vs p = some ws ∧ Vals ws xs := by
  induction p with
  | nil => intro vs us xs r h; cases h; exact ⟨[], rfl, .nil⟩
  | cons i p ih =>
    intro vs us xs r h
    unfold pick at h
    split at h
    · rename_i u us' e1 e2
      cases h
      obtain ⟨ws, f1, f2⟩ := ih r e2
      obtain ⟨v, g1, g2⟩ : ∃ v, vs[i]? = some v ∧ RelV v u := by
        have hi : i < us.length := (List.getElem?_eq_some_iff.mp e1).1
        have hi' : i < vs.length := by rw [r.length]; exact hi
        obtain ⟨u', z, ru⟩ := r.get (List.getElem?_eq_getElem hi')
        rw [e1] at z
        cases z
        exact ⟨_, List.getElem?_eq_getElem hi', ru⟩
      exact ⟨v :: ws, by unfold pick; rw [g1, f1], .cons g2 f2⟩
    · cases h
theorem pick_len {α β : Type} {p : List Nat} : ∀ {l : List α} {l' : List β} {xs : List α}, l.length = l'.length → pick l p = some xs → ∃ ys, pick l' p = some ys := by
  induction p with
  | nil => intro l l' xs _ _; exact ⟨[], rfl⟩
  | cons i p ih =>
    intro l l' xs hl h
    unfold pick at h
    split at h
    · rename_i u us' e1 e2
      obtain ⟨ys, f⟩ := ih hl e2
      have hi : i < l.length := (List.getElem?_eq_some_iff.mp e1).1
      have hi' : i < l'.length := by omega
      exact ⟨l'[i] :: ys, by unfold pick; rw [List.getElem?_eq_getElem hi', f]⟩
    · cases h
theorem pick_rvl {Hs : Hp} {p : List Nat} (nd : p.Nodup) : ∀ {xs : List V} {rs : List RV} {qs : List RV}, RvL c σ Hs H xs rs → pick rs p = some qs → ∃ ys, pick xs p = some ys ∧ RvL c σ Hs H ys qs := by
  intro xs rs qs v
  -- two places with the same new object
  have apart : ∀ {xs : List V} {rs : List RV}, RvL c σ Hs H xs rs → ∀ (i j : Nat) o o' x, rs[i]? = some (.n o) → rs[j]? = some (.n o') → xs[i]? = some x → xs[j]? = some x → i = j := by
    intro xs rs v
    induction v with
    | nil => intro i j o o' x h; simp at h
    | cons h t d ih =>
      intro i j o o' x h1 h2 e1 e2
      cases i with
      | zero =>
        cases j with
        | zero => rfl
        | succ j =>
          simp at h1 e1
          subst e1
          exact absurd (by simpa using e2) (d o h1 j o' (by simpa using h2))
      | succ i =>
        cases j with
        | zero =>
          simp at h2 e2
          subst e2
          exact absurd (by simpa using e1) (d o' h2 i o (by simpa using h1))
        | succ j => rw [ih i j o o' x (by simpa using h1) (by simpa using h2) (by simpa using e1) (by simpa using e2)]
  have ap := apart v
  clear apart
  have get : ∀ {p : List Nat} {qs : List RV} {ys : List V} {j : Nat} {q : RV}, pick rs p = some qs → pick xs p = some ys → qs[j]? = some q → ∃ i, p[j]? = some i ∧ rs[i]? = some q ∧ ys[j]? = xs[i]? := by
    intro p
    induction p with
    | nil => intro qs ys j q h _ e; cases h; simp at e
    | cons i p ih =>
      intro qs ys j q h1 h2 e
      unfold pick at h1 h2
      split at h1
      · rename_i r1 q1 a1 a2
        cases h1
        split at h2
        · rename_i x1 y1 b1 b2
          cases h2
          cases j with
          | zero => simp at e; subst e; exact ⟨i, rfl, a1, by rw [b1]; rfl⟩
          | succ j => obtain ⟨i', g1, g2, g3⟩ := ih a2 b2 (by simpa using e); exact ⟨i', by simpa using g1, g2, by simpa using g3⟩
        · cases h2
      · cases h1
  induction p generalizing qs with
  | nil => intro h; cases h; exact ⟨[], rfl, .nil⟩
  | cons i p ih =>
    intro h
    unfold pick at h
    split at h
    · rename_i r1 q1 a1 a2
      cases h
      obtain ⟨ys, f1, f2⟩ := ih (List.nodup_cons.mp nd).2 a2
      obtain ⟨x, g1, g2⟩ := v.get a1
      refine ⟨x :: ys, by unfold pick; rw [g1, f1], .cons g2 f2 fun o eo j o' ej ex => ?_⟩
      obtain ⟨i', k1, k2, k3⟩ := get a2 f1 ej
      rw [ex] at k3
      subst eo
      have := ap i i' o o' x a1 k2 g1 k3.symm
      subst this
      exact (List.nodup_cons.mp nd).1 (List.mem_of_getElem? k1)
    · cases h
theorem fk_nil : PK X [] (tFL c b W fun ρ => .ok [] ρ) := ⟨fun pos pins s σ H Q I hq => pk_nil.run pos pins s σ H Q I (by
  obtain ⟨ρ, r, hq⟩ := hq
  exact hq [] H r (.refl ..) .nil)⟩
theorem cons_imp {f : Env → R RV} {g : Env → R (List RV)} {H0 : Hp} {Q : List V → Hp → Prop} (hq : tFL c b W (fun ρ => (f ρ).bind fun x ρ1 => (g ρ1).bind fun xs ρ2 => .ok (x :: xs) ρ2) σ H0 Q) : tCons (tF c b W f) (tFL c b W g) σ H0 Q := by
  obtain ⟨ρ, r, hq⟩ := hq
  have hq : Post c b W σ (RvL c σ) ρ H0 ((f ρ).bind fun x ρ1 => (g ρ1).bind fun xs ρ2 => .ok (x :: xs) ρ2) Q := hq
  refine ⟨ρ, r, ?_⟩
  cases ef : f ρ with
  | bad => rw [ef] at hq; exact hq
  | ex x ρ1 => rw [ef] at hq; exact hq
  | ok ra ρ1 =>
    rw [ef] at hq
    have hq : Post c b W σ (RvL c σ) ρ H0 ((g ρ1).bind fun xs ρ2 => .ok (ra :: xs) ρ2) Q := hq
    intro x H1 r1 s1 v1
    refine ⟨ρ1, r1, ?_⟩
    cases eg : g ρ1 with
    | bad => rw [eg] at hq; exact hq
    | ex e ρ2 =>
      rw [eg] at hq
      exact fun cls d H2 r2 s2 p2 => hq cls d H2 r2 (s1.trans s2) p2
    | ok rb ρ2 =>
      rw [eg] at hq
      intro y H2 r2 s2 v2
      refine hq (x :: y) H2 r2 (s1.trans s2) (.cons (Rv.step r r1 s1 s2 v1) (v2.back s1) ?_)
      intro o eo j o' ej ex
      subst eo
      obtain ⟨a, ea, m, _⟩ := v1
      obtain ⟨u, eu, _⟩ := m.mut
      subst ea
      obtain ⟨xq, e1, hv⟩ := v2.get ej
      rw [ex] at e1
      cases e1
      obtain ⟨a', ea', _, n'⟩ := hv
      cases ea'
      rw [eu] at n'
      cases n'
theorem fk_cons {e : Expr} {nm : Option Str} {kpos : Pos} {ks : List Keyword} {f : Env → R RV} {g : Env → R (List RV)} (he : PE X e (tF c b W f)) (hs : PK X ks (tFL c b W g)) :
    PK X (⟨nm, e, kpos⟩ :: ks) (tFL c b W fun ρ => (f ρ).bind fun x ρ1 => (g ρ1).bind fun xs ρ2 => .ok (x :: xs) ρ2) := ⟨fun pos pins s σ H Q I hq => (pk_cons he hs).run pos pins s σ H Q I (cons_imp hq)⟩
theorem RvL.append {Hs : Hp} : ∀ {xs : List V} {rs : List RV} {ys : List V} {qs : List RV}, RvL c σ Hs H xs rs → RvL c σ Hs H ys qs → (∀ (i j : Nat) o o' x, rs[i]? = some (.n o) → qs[j]? = some (.n o') → xs[i]? = some x → ys[j]? ≠ some x) → RvL c σ Hs H (xs ++ ys) (rs ++ qs)
  | _, _, _, _, .nil, q, _ => q
  | _, _, ys, qs, .cons (x := x) (r := r) (xs := xs) (rs := rs) h t d, q, dj => by
    refine .cons h (RvL.append t q fun i j o o' x e1 e2 e3 => dj (i + 1) j o o' x (by simpa using e1) e2 (by simpa using e3)) fun o eo j o' ej ex => ?_
    have ej : (rs ++ qs)[j]? = some (.n o') := ej
    have ex : (xs ++ ys)[j]? = some x := ex
    by_cases hj : j < rs.length
    · rw [List.getElem?_append_left hj] at ej
      rw [List.getElem?_append_left (by rw [t.length]; exact hj)] at ex
      exact d o eo j o' ej ex
    · rw [List.getElem?_append_right (by omega)] at ej
      rw [List.getElem?_append_right (by rw [t.length]; omega), t.length] at ex
      exact dj 0 (j - rs.length) o o' x (by rw [eo]; rfl) ej rfl ex
theorem kw_all {env : PySem.Env} {pos : Pos} : ∀ {ks : List Keyword}, ks.all kwOk = true → (backToKw pos (keywordEach ks env)).all (·.1.isSome) = true ∧ (backToKw pos (keywordEach ks env)).filterMap (·.1) = kwNames ks ∧ (backToKw pos (keywordEach ks env)).any (·.1.isNone) = false
  | [], _ => ⟨rfl, rfl, rfl⟩
  | ⟨nm, e, kp⟩ :: ks, h => by
    rw [List.all_cons, Bool.and_eq_true] at h
    obtain ⟨h1, h2, h3⟩ := kw_all (env := env) (pos := pos) h.2
    cases nm with
    | none => cases h.1
    | some y =>
      have e1 : backToKw pos (keywordEach (⟨some y, e, kp⟩ :: ks) env) = (some y, do let v ← eval e env; standAt pos; pure v) :: backToKw pos (keywordEach ks env) := rfl
      rw [e1, List.all_cons, List.filterMap_cons, List.any_cons, h1, h2, h3]
      exact ⟨rfl, rfl, rfl⟩
theorem run_defK {k na : Nat} {ks : List Str} {p : List Nat} {ps : List Str} (D : DefOk c kwT call m k ps) (xc : XC c N sc n X) (hm : m ≤ n) (hx : PassW X W) (hkw : (k, na, ks, p) ∈ kwT) {Q : VK} {us ws : List Value} {vs zs xs : List V} (I : Inv X pins σ H s) (r : Vals vs us) (rz : Vals zs ws) (l1 : vs.length = na) (l2 : zs.length = ks.length)
    (hp : pick (vs ++ zs) p = some xs) (h : spF c call k [] xs H Q (fun cls d H' => W cls d σ H')) :
    wpAny (model X.prog X.w) X.A (PySem.call (.ref (c.fnA k)) us (ks.zip ws)) (EP X pins σ Q) X.xe s := by
  obtain ⟨fd, F, _, hk⟩ := D.cast xc
  obtain ⟨xu, e1, bt⟩ := hk na ks p hkw s us ws (by rw [← r.length]; exact l1) (by rw [← rz.length]; exact l2)
  obtain ⟨xs', e2, rx⟩ := pick_rel (r.append rz) e1
  rw [hp] at e2
  cases e2
  refine wpAny_call (codeAny_mono (F.run X.A X.stack s H ⟨us, ks.zip ws⟩ xu xs Q _ (xc.room.mono hm) I.env0 bt rx h) fun r s' hq => ?_)
  cases r with
  | error e => exact hx σ pins H s e s' I hq
  | ok fl =>
    cases fl with
    | ret u => exact I.after hq
    | next => exact False.elim hq
    | brk => exact False.elim hq
    | cont => exact False.elim hq
/-- both lists of arguments evaluated -/
theorem kw_run {P : PI} {k na nk : Nat} {p : List Nat} (nd : p.Nodup) {f g : Env → R (List RV)} {H0 : Hp} {Q : VK}
    (hq : tF c b W (fun ρ => (f ρ).bind fun rs ρ1 => (g ρ1).bind fun qs ρ2 => if rs.length = na ∧ qs.length = nk then (match pick (rs ++ qs) p with
      | some xs => calling P call k [] xs ρ2
      | none => .bad) else .bad) σ H0 Q) :
    tFL c b W f σ H0 (fun vs H1 => tFL c b W g σ H1 fun zs H2 => ∀ (pins : List (Addr × Obj)) (s : Shared), Inv X pins σ H2 s → vs.length = na ∧ zs.length = nk ∧ ∃ H3 xs, Inv X pins σ H3 s ∧ pick (vs ++ zs) p = some xs ∧ spF c call k [] xs H3 Q (fun cls d H' => W cls d σ H')) := by
  obtain ⟨ρ, r, hq⟩ := hq
  have hq : Post c b W σ (Rv c σ) ρ H0 ((f ρ).bind fun rs ρ1 => (g ρ1).bind fun qs ρ2 => if rs.length = na ∧ qs.length = nk then (match pick (rs ++ qs) p with
      | some xs => calling P call k [] xs ρ2
      | none => .bad) else .bad) Q := hq
  refine ⟨ρ, r, ?_⟩
  cases ef : f ρ with
  | bad => rw [ef] at hq; exact hq
  | ex x ρ1 => rw [ef] at hq; exact hq
  | ok rs ρ1 =>
    rw [ef] at hq
    have hq : Post c b W σ (Rv c σ) ρ H0 ((g ρ1).bind fun qs ρ2 => if rs.length = na ∧ qs.length = nk then (match pick (rs ++ qs) p with
      | some xs => calling P call k [] xs ρ2
      | none => .bad) else .bad) Q := hq
    intro vs H1 r1 s1 v1
    refine ⟨ρ1, r1, ?_⟩
    cases eg : g ρ1 with
    | bad => rw [eg] at hq; exact hq
    | ex e ρ2 =>
      rw [eg] at hq
      exact fun cls d H2 r2 s2 p2 => hq cls d H2 r2 (s1.trans s2) p2
    | ok qs ρ2 =>
      rw [eg] at hq
      have hq : Post c b W σ (Rv c σ) ρ H0 (if rs.length = na ∧ qs.length = nk then (match pick (rs ++ qs) p with
        | some xs => calling P call k [] xs ρ2
        | none => .bad) else .bad) Q := hq
      intro zs H2 r2 s2 v2 pins s I
      split at hq
      · rename_i hl
        refine ⟨by rw [v1.length]; exact hl.1, by rw [v2.length]; exact hl.2, ?_⟩
        split at hq
        · rename_i ys ep
          have v1' : RvL c σ H0 H2 vs rs := by
            have go : ∀ {vs : List V} {rs : List RV}, RvL c σ H0 H1 vs rs → RvL c σ H0 H2 vs rs := by
              intro vs rs v
              induction v with
              | nil => exact .nil
              | cons h t d ih => exact .cons (Rv.step r r1 s1 s2 h) ih d
            exact go v1
          have va : RvL c σ H0 H2 (vs ++ zs) (rs ++ qs) := RvL.append v1' (v2.back s1) fun i j o o' x e1 e2 e3 e4 => by
            obtain ⟨x1, f1, h1⟩ := v1.get e1
            rw [e3] at f1
            cases f1
            obtain ⟨a, ea, m, _⟩ := h1
            obtain ⟨u, eu, _⟩ := m.mut
            subst ea
            obtain ⟨x2, f2, h2⟩ := v2.get e2
            rw [e4] at f2
            cases f2
            obtain ⟨a', ea', _, n'⟩ := h2
            cases ea'
            rw [eu] at n'
            cases n'
          obtain ⟨xs, px, vx⟩ := pick_rvl nd va ep
          obtain ⟨H3, I3, sp⟩ := calling_run I r r2 (s1.trans s2) vx hq
          exact ⟨H3, xs, I3, px, sp⟩
        · exact hq.elim
      · exact hq.elim
theorem fd_callK (xc : XC c N sc n X) {P : PI} {k na : Nat} {p : List Nat} {ps : List Str} (D : DefOk c kwT call m k ps) (hm : m ≤ n) (hx : PassW X W) {x : Str} {p1 pos : Pos} {e : Expr} {es : List Expr} {kws : List Keyword} {d dk : Den} (hg : sc.names.lookup x = some .globalImplicit) (hmg : c.mg x = some (.ref (c.fnA k))) (hdb : (x == ("__debug__" : Str)) = false)
    (hs : (e :: es).all notStar = true) (hk : kws.all kwOk = true) (hkw : (k, na, kwNames kws, p) ∈ kwT) (nd : p.Nodup) (ha : PA X (e :: es) (tFL c b W d.l)) (hka : PK X kws (tFL c b W dk.l)) :
    FD c b W X (.Call (.Name x p1) (e :: es) kws pos) (vDen fun ρ => (d.l ρ).bind fun rs ρ1 => (dk.l ρ1).bind fun qs ρ2 => if rs.length = na ∧ qs.length = (kwNames kws).length then (match pick (rs ++ qs) p with
      | some xs => calling P call k [] xs ρ2
      | none => .bad) else .bad) := by
  have hs' := hs
  rw [List.all_cons, Bool.and_eq_true] at hs'
  have hg' : Gl X x := by show X.env.scope.names.lookup x = _; rw [xc.sc]; exact hg
  obtain ⟨k1, k2, k3⟩ := kw_all (env := X.env) (pos := pos) hk
  refine fd_plain xc ⟨fun pins s σ H Q I h => ?_⟩ fun _ => rfl
  refine wpAny_Call_Name_kw (ld_glob I hg' (by rw [xc.mg]; exact hmg) ?_ hdb)
  refine PySem.W.callWith_KW (h₀ := X.base) I.ok.mod.kin (by rw [xc.K]; exact D.kp) k1 (thn (ha.run pos pins s σ H _ I (kw_run (X := X) nd h)) fun us s1 ⟨vs, H1, I1, r, q⟩ => ?_) (by rw [backTo_plain hs, k3]; rfl) (star_cons hs'.1)
  refine thn (hka.run pos pins s1 σ H1 _ I1 q) fun ws s2 ⟨zs, H2, I2, rz, q2⟩ => ⟨I2.kIn, ?_⟩
  obtain ⟨l1, l2, H3, xs, I3, px, sp⟩ := q2 pins s2 I2
  rw [k2]
  exact run_defK D xc hm hx hkw I3 r rz l1 l2 px sp
theorem fd_callK0 (xc : XC c N sc n X) {P : PI} {k : Nat} {p : List Nat} {ps : List Str} (D : DefOk c kwT call m k ps) (hm : m ≤ n) (hx : PassW X W) {x : Str} {p1 pos : Pos} {kws : List Keyword} {dk : Den} (hg : sc.names.lookup x = some .globalImplicit) (hmg : c.mg x = some (.ref (c.fnA k))) (hdb : (x == ("__debug__" : Str)) = false)
    (hk : kws.all kwOk = true) (hkw : (k, 0, kwNames kws, p) ∈ kwT) (nd : p.Nodup) (hka : PK X kws (tFL c b W dk.l)) :
    FD c b W X (.Call (.Name x p1) [] kws pos) (vDen fun ρ => (R.ok [] ρ).bind fun rs ρ1 => (dk.l ρ1).bind fun qs ρ2 => if rs.length = 0 ∧ qs.length = (kwNames kws).length then (match pick (rs ++ qs) p with
      | some xs => calling P call k [] xs ρ2
      | none => .bad) else .bad) := by
  have hg' : Gl X x := by show X.env.scope.names.lookup x = _; rw [xc.sc]; exact hg
  obtain ⟨k1, k2, k3⟩ := kw_all (env := X.env) (pos := pos) hk
  refine fd_plain xc ⟨fun pins s σ H Q I h => ?_⟩ fun _ => rfl
  refine wpAny_Call_Name_kw (ld_glob I hg' (by rw [xc.mg]; exact hmg) ?_ hdb)
  refine PySem.W.callWith_KW0 (h₀ := X.base) I.ok.mod.kin (by rw [xc.K]; exact D.kp) k1 ?_ (by rw [k3]; rfl)
  obtain ⟨ρ, r0, h0⟩ := kw_run (f := fun ρ => .ok [] ρ) (X := X) nd h
  have q := h0 [] H r0 (.refl ..) .nil
  refine thn (hka.run pos pins s σ H _ I q) fun ws s2 ⟨zs, H2, I2, rz, q2⟩ => ⟨I2.kIn, ?_⟩
  obtain ⟨l1, l2, H3, xs, I3, px, sp⟩ := q2 pins s2 I2
  rw [k2]
  exact run_defK (us := []) (vs := []) D xc hm hx hkw I3 .nil rz rfl l2 px sp
end
end Fl
set_option Elab.async false
set_option linter.all false
set_option maxRecDepth 100000
set_option maxHeartbeats 4000000
/-! Layer F, part 12: attributes, own ==, new instances. -/
namespace Fl
open PySem PySem.Spec PyProof.Rows L2 NdefX LamX
/-- what the classes do -/
structure ClsOk (c : SC) (kwT : KwT) (call : Call) (m : Nat) (P : PI) : Prop where
  prop : ∀ C f g, c.isCls C = true → (P.ci C).props.lookup f = some g → ∃ p ps, PropOf c.K (c.clsA C) (c.fldN f) p (c.fnA g) ∧ DefOk c kwT call m g ps ∧ ps.length = 1
  fld : ∀ C f, c.isCls C = true → (P.ci C).flds.contains f = true → NoAttr c.K (c.clsA C) (c.fldN f)
  inj : ∀ f g, c.fldN f = c.fldN g → f = g
  eq : ∀ C f, c.isCls C = true → (P.ci C).eq = some f → PySem.W.findIn c.K (.ref (c.clsA C)) "__eq__" = some (some (.ref (c.fnA f))) ∧ ∃ ps, DefOk c kwT call m f ps ∧ ps.length = 2
def svD : SV → D
  | .d v => v
  | .m _ o => fz o
section
variable {X : Cx} {pins : List (Addr × Obj)} {s : Shared} {σ : L2.St} {H : Hp} {c : SC} {b : Bs} {W : WX} {N : List Str} {sc : Scope} {n m : Nat} {kwT : KwT} {call : Call} {P : PI}
theorem Post.noEx {α β : Type} {rep : Hp → Hp → β → α → Prop} {W' : WX} {ρ : Env} {o : R α} {Q : β → Hp → Prop} (h : Post c b W σ rep ρ H (noEx o) Q) : Post c b W' σ rep ρ H o Q := by
  cases o with
  | ok a ρ1 => exact h
  | ex e ρ1 => exact h.elim
  | bad => exact h
theorem val_imp {f : Env → R RV} {g : RV → Env → R RV} {H0 : Hp} {Q : VK} (hq : tF c b W (fun ρ => (f ρ).bind g) σ H0 Q) :
    tF c b W f σ H0 (fun x H1 => ∃ ρs ρ r, ER c b σ ρs H0 ∧ ER c b σ ρ H1 ∧ Stp σ ρs H0 ρ H1 ∧ Rv c σ H0 H1 x r ∧ Post c b W σ (Rv c σ) ρs H0 (g r ρ) Q) := by
  obtain ⟨ρ, r, hq⟩ := hq
  have hq : Post c b W σ (Rv c σ) ρ H0 ((f ρ).bind g) Q := hq
  refine ⟨ρ, r, ?_⟩
  cases ef : f ρ with
  | bad => rw [ef] at hq; exact hq
  | ex e ρ1 => rw [ef] at hq; exact hq
  | ok rs ρ1 =>
    rw [ef] at hq
    exact fun xs H1 r1 s1 v1 => ⟨ρ, ρ1, rs, r, r1, s1, v1, hq⟩
theorem RvL.one {Hs : Hp} {x : V} {r : RV} (h : Rv c σ Hs H x r) : RvL c σ Hs H [x] [r] := .cons h .nil fun _ _ j _ e => by simp at e
theorem toD_view {r : RV} {ρ ρ' : Env} {d e : D} (h : view ρ r = some d) (h2 : toD r ρ = .ok e ρ') : e = d := by
  cases r with
  | d v => cases h; cases h2; rfl
  | n o => cases h; cases h2; rfl
  | sl i =>
    unfold view at h
    unfold toD at h2
    dsimp only at h h2
    split at h2
    · rename_i o ei
      cases h2
      rw [ei] at h
      cases h
      rfl
    · rename_i v ei
      cases h2
      rw [ei] at h
      cases h
      rfl
    · cases h2
theorem rest_view {br : Nat → Bool} {j : Nat} {r : RV} {ρ ρ' : Env} {d : D} {qs : List RV} {args : List SV} (h : view ρ r = some d) (h1 : restA br j [r] ρ = .ok qs ρ') (h2 : readA ρ' qs = some args) : ∃ sv, args = [sv] ∧ svD sv = d := by
  unfold restA at h1
  split at h1
  · rename_i i hb
    obtain ⟨q1, ρ1, e1, e2⟩ := R.bind_ok h1
    cases e1
    cases e2
    unfold readA at h2
    unfold view at h
    dsimp only at h h2
    split at h2
    · rename_i w o ei
      cases h2
      rw [ei] at h
      cases h
      exact ⟨_, rfl, rfl⟩
    · rename_i v ei
      cases h2
      rw [ei] at h
      cases h
      exact ⟨_, rfl, rfl⟩
    · cases h2
  · obtain ⟨d', ρ1, e1, e2⟩ := R.bind_ok h1
    obtain ⟨q1, ρ2, e3, e4⟩ := R.bind_ok e2
    cases e3
    cases e4
    unfold readA at h2
    cases h2
    exact ⟨_, rfl, toD_view h e1⟩
theorem Sv.vw {x : V} {sv : SV} {d : D} (h : Sv c H x sv) (e : svD sv = d) : Vw c H x d := by
  cases sv with
  | d v => exact .r (by rw [← e]; exact h)
  | m w o => obtain ⟨a, ea, mo⟩ := h; exact .m ea mo e.symm
theorem lookup_fld (inj : ∀ f g, c.fldN f = c.fldN g → f = g) {f : Nat} {v : D} : ∀ {fv : List (Str × V)} {fs : List (Nat × D)}, fv.map (·.1) = fs.map (fun p => c.fldN p.1) → RpL c H (fv.map (·.2)) (fs.map (·.2)) → fs.lookup f = some v → ∃ x, fv.lookup (c.fldN f) = some x ∧ Rp c H x v
  | _, [], _, _, h => by simp at h
  | [], _ :: _, e, _, _ => by simp at e
  | (y, x) :: fv, (g, d) :: fs, e, r, h => by
    rw [List.map_cons, List.map_cons] at e
    injection e with e1 e2
    rw [List.map_cons, List.map_cons] at r
    have e1 : y = c.fldN g := e1
    cases r with
    | cons rx rt =>
      by_cases hg : f = g
      · subst hg
        simp at h
        subst h
        subst e1
        exact ⟨x, by simp, rx⟩
      · have hb : (f == g) = false := by simpa using hg
        rw [List.lookup_cons, hb] at h
        obtain ⟨x', h1, h2⟩ := lookup_fld inj e2 rt h
        have hb2 : (c.fldN f == y) = false := by
          rw [e1]
          simpa using fun z => hg (inj _ _ z)
        exact ⟨x', by rw [List.lookup_cons, hb2]; exact h1, h2⟩
theorem getattr_rd {a C dx : Addr} {fv : List (Str × V)} {f : Str} {v : V} {A : Around} {E : Value → Shared → Prop} {bb : Bool} {Q : Value → Shared → Prop} (I : Inv X pins σ H s) (e : Rd H a (.ins C dx fv)) (cl : Cls X.K C) (na : NoAttr X.K C f) (l : fv.lookup f = some v)
    (h : ∀ u s', Inv X pins σ H s' → L2.RelV v u → Q u s') : wpAny (model X.prog X.w) A (getAttr (.ref a) f bb) Q E s := by
  obtain ⟨mA, O, r, _, _, _⟩ := ins_ok (e.ok I.hok)
  obtain ⟨u, hu, ru⟩ := RelO.some_of (v := v) (o := mA f) (by rw [← l]; exact r f)
  exact get_map I.kIn O (cl.get f) cl.hd na hu (handed_of ru) (h u _ (I.tok _) ru)
theorem getprop_rd {a C dx p g : Addr} {fv : List (Str × V)} {f : Str} {k : Nat} {fd : FuncData} {ps : List Str} {sp : Sp} {Q : VK} {bb : Bool} {E' : Value → Shared → Prop} (I : Inv X pins σ H s) (ea : Rd H a (.ins C dx fv)) (cl : Cls X.K C) (hp : PropOf X.K C f p g)
    (F : FnOk X.prog X.w X.K X.mg X.base (L2.CX X.prog X.w) k g fd ps sp) (hr : Room (k + 1) X.A) (hb : Binds X.K fd ps []) (h : sp [.ref a] H Q (fun _ _ _ => False)) :
    wpAny (model X.prog X.w) X.A (getAttr (.ref a) f bb) (EP X pins σ Q) E' s := by
  obtain ⟨mA, O, _, _, _, _⟩ := ins_ok (ea.ok I.hok)
  obtain ⟨od, J, _⟩ := O.look
  obtain ⟨rest, hrec⟩ := hp.rec_
  have I1 := I.tok (s.toks + 1)
  have hl : ([Value.ref a] ++ []).length = ps.length := by
    rw [← F.len _ _ _ _ h]
    rfl
  have hc : (PySem.W.clsIn X.K C).isSome = true := by
    obtain ⟨cd, hc, _⟩ := PySem.W.any_some cl.hd
    rw [hc]
    rfl
  refine PySem.W.get_bind I.kIn J (PySem.W.plainGet_of (cl.get f)).1 (PySem.W.findObj_data hc hp.at_ hp.get hp.tak) (PySem.W.plainGet_of (cl.get f)).2 (wpAny_call (PySem.W.prop_get (s := { s with toks := s.toks + 1 }) I.kIn hrec ?_))
  refine codeAny_mono (F.run X.A.in1 X.stack { s with toks := s.toks + 1 } H ⟨[.ref a], []⟩ [.ref a] [.ref a] Q _ hr.in1 I1.env0.in1 (hb _ [.ref a] I1.kIn hl) (.cons rfl .nil) h) fun r s' hq => ?_
  cases r with
  | error er =>
    obtain ⟨_, _, _, _, _, _, _, _, _, _, _, _, z⟩ := hq
    exact z.elim
  | ok fl =>
    cases fl with
    | ret u =>
      obtain ⟨v, H', I3, rv, q3⟩ := I1.after hq
      show wpAny _ _ (handedOut u) _ _ _
      rw [PySem.W.handedOut_of (handed_of rv)]
      exact wpAny_pure ⟨v, H', I3, rv, q3⟩
    | next => exact False.elim hq
    | brk => exact False.elim hq
    | cont => exact False.elim hq
theorem fd_att (xc : XC c N sc n X) (cf : CF c) (ck : ClsOk c kwT call m P) (hm : m + 1 ≤ n) {o : Expr} {f : Nat} {pos : Pos} {d : Den} (ho : FD c b W X o d) (hb : okBase o = true) :
    FD c b W X (.Attribute o (c.fldN f) pos) (vDen fun ρ => (d.v ρ).bind fun r ρ1 => match view ρ1 r with
      | some (.ins C fs) => (match (P.ci C).props.lookup f with
        | some g => noEx (calling P call g [] [r] ρ1)
        | none => if (P.ci C).flds.contains f then R.opt ((fs.lookup f).map .d) ρ1 else .bad)
      | _ => .bad) := by
  refine fd_plain xc ⟨fun pins s σ H Q I h => ?_⟩ fun _ => rfl
  refine attr_of (base_ok hb) (thn (ho.v.run pins s σ H _ I (val_imp h)) fun u s1 ⟨x, H1, I1, rx, ρs, ρ, r, r0, r1, st, v, q⟩ => ?_)
  split at q
  · rename_i C fs ev
    obtain ⟨hC, a, dx, fv, rfl, ha, h1, h2⟩ := (view_ok r1 v ev).ins
    obtain rfl : u = Value.ref a := rx
    have cl : Cls X.K (c.clsA C) := by rw [xc.K]; exact cf.cl C hC
    split at q
    · rename_i g hg
      obtain ⟨p, ps, hp, D, hl⟩ := ck.prop C f g hC hg
      obtain ⟨H2, qs, ρ1, args, e1, e2, I2, a2, p2⟩ := calling_run' I1 r0 r1 st (RvL.one v) (Post.noEx (W' := fun _ _ _ _ => False) q)
      obtain ⟨sv, rfl, hsv⟩ := rest_view ev e1 e2
      obtain ⟨x', ex', hx'⟩ := a2.at_ 0 sv rfl
      cases ex'
      obtain ⟨_, a', dx', fv', ea', ha', _⟩ := (Sv.vw hx' hsv).ins
      cases ea'
      obtain ⟨fd, F, hbi, _⟩ := D.cast xc
      exact getprop_rd I2 ha' cl (by rw [xc.K]; exact hp) F (xc.room.mono hm) hbi ⟨_, a2, p2⟩
    · split at q
      · rename_i hf
        obtain ⟨rr, e0, q⟩ := q.opt
        cases el : fs.lookup f with
        | none => rw [el] at e0; cases e0
        | some v0 =>
          rw [el] at e0
          cases e0
          obtain ⟨y, l1, l2⟩ := lookup_fld ck.inj h1 h2 el
          exact getattr_rd I1 ha cl (by rw [xc.K]; exact ck.fld C f hC hf) l1 fun u' s2 I2 ru => ⟨y, H1, I2, ru, q y H1 r1 st l2⟩
      · exact q.elim
  · exact q.elim
theorem val2_imp {f g : Env → R RV} {k : RV → RV → Env → R RV} {H0 : Hp} {Q : VK} (hq : tF c b W (fun ρ => (f ρ).bind fun r ρ1 => (g ρ1).bind fun q ρ2 => k r q ρ2) σ H0 Q) :
    tF c b W f σ H0 (fun x H1 => tF c b W g σ H1 fun y H2 => ∃ ρs ρ r q, ER c b σ ρs H0 ∧ ER c b σ ρ H2 ∧ Stp σ ρs H0 ρ H2 ∧ RvL c σ H0 H2 [x, y] [r, q] ∧ Post c b W σ (Rv c σ) ρs H0 (k r q ρ) Q) := by
  obtain ⟨ρ, r, hq⟩ := hq
  have hq : Post c b W σ (Rv c σ) ρ H0 ((f ρ).bind fun r ρ1 => (g ρ1).bind fun q ρ2 => k r q ρ2) Q := hq
  refine ⟨ρ, r, ?_⟩
  cases ef : f ρ with
  | bad => rw [ef] at hq; exact hq
  | ex x ρ1 => rw [ef] at hq; exact hq
  | ok ra ρ1 =>
    rw [ef] at hq
    have hq : Post c b W σ (Rv c σ) ρ H0 ((g ρ1).bind fun q ρ2 => k ra q ρ2) Q := hq
    intro x H1 r1 s1 v1
    refine ⟨ρ1, r1, ?_⟩
    cases eg : g ρ1 with
    | bad => rw [eg] at hq; exact hq
    | ex e ρ2 =>
      rw [eg] at hq
      exact fun cls d H2 r2 s2 p2 => hq cls d H2 r2 (s1.trans s2) p2
    | ok rb ρ2 =>
      rw [eg] at hq
      intro y H2 r2 s2 v2
      refine ⟨ρ, ρ2, ra, rb, r, r2, s1.trans s2, .cons (Rv.step r r1 s1 s2 v1) (RvL.one (v2.back s1)) ?_, hq⟩
      intro o eo j o' ej ex
      subst eo
      obtain ⟨a, ea, m, _⟩ := v1
      obtain ⟨u, eu, _⟩ := m.mut
      subst ea
      obtain ⟨xq, e1, hv⟩ := (RvL.one v2).get ej
      rw [ex] at e1
      cases e1
      obtain ⟨a', ea', _, n'⟩ := hv
      cases ea'
      rw [eu] at n'
      cases n'
def cmpF (P : PI) (call : Call) (op : CmpOp) (r q : RV) (ρ2 : Env) : R RV := match op, view ρ2 r with
    | .Eq, some (.ins C fs) => (match (P.ci C).eq, view ρ2 q with
      | some f, some (.ins C' _) => if C' = C then (calling P call f [] [r, q] ρ2).bind fun r ρ3 => (match asBl r with
        | some k => .ok (.d (.bl k)) ρ3
        | none => .bad) else .bad
      | _, _ => .bad)
    | op, some x => R.opt ((view ρ2 q).bind fun y => (cmps op x y).map fun b => .d (.bl b)) ρ2
    | _, none => .bad
theorem toD_views {r : RV} {ρ ρ' : Env} {d : D} (h : toD r ρ = .ok d ρ') (q : RV) : view ρ' q = view ρ q := by
  cases r with
  | d v => cases h; rfl
  | n o => cases h; rfl
  | sl i =>
    unfold toD at h
    dsimp only at h
    split at h
    · rename_i o ei
      cases h
      cases q with
      | d v => rfl
      | n o => rfl
      | sl j =>
        unfold view
        dsimp only
        have hi : i < ρ.length := (List.getElem?_eq_some_iff.mp ei).1
        by_cases hj : i = j
        · subst hj
          rw [List.getElem?_set_self hi, ei]
        · rw [List.getElem?_set_ne hj]
    · cases h; rfl
    · cases h
theorem restA_views {br : Nat → Bool} : ∀ {rs : List RV} {j : Nat} {ρ ρ' : Env} {qs : List RV}, restA br j rs ρ = .ok qs ρ' → (∀ q, view ρ' q = view ρ q) ∧ ∀ ds, views ρ rs = some ds → views ρ' qs = some ds
  | [], j, ρ, ρ', qs, h => by cases h; exact ⟨fun _ => rfl, fun _ h => h⟩
  | r :: rs, j, ρ, ρ', qs, h => by
    have vc : ∀ (ρ : Env) (r : RV) (rs : List RV) (ds : List D), views ρ (r :: rs) = some ds ↔ ∃ d ds', view ρ r = some d ∧ views ρ rs = some ds' ∧ ds = d :: ds' := fun ρ r rs ds => by
      have eq : views ρ (r :: rs) = (match view ρ r with
        | some d => (match views ρ rs with
          | some ds => some (d :: ds)
          | none => none)
        | none => none) := rfl
      rw [eq]
      constructor
      · intro h
        cases e1 : view ρ r with
        | none => rw [e1] at h; cases h
        | some d =>
          rw [e1] at h
          cases e2 : views ρ rs with
          | none => rw [e2] at h; cases h
          | some ds' => rw [e2] at h; cases h; exact ⟨d, ds', rfl, rfl, rfl⟩
      · rintro ⟨d, ds', e1, e2, rfl⟩
        rw [e1, e2]
    unfold restA at h
    split at h
    · rename_i i hb
      obtain ⟨q1, ρ1, e1, e2⟩ := R.bind_ok h
      cases e2
      obtain ⟨h1, h2⟩ := restA_views e1
      refine ⟨h1, fun ds hd => ?_⟩
      obtain ⟨d, ds', f1, f2, rfl⟩ := (vc _ _ _ _).mp hd
      exact (vc _ _ _ _).mpr ⟨d, ds', by rw [h1]; exact f1, h2 ds' f2, rfl⟩
    · obtain ⟨d0, ρ1, e1, e2⟩ := R.bind_ok h
      obtain ⟨q1, ρ2, e3, e4⟩ := R.bind_ok e2
      cases e4
      obtain ⟨h1, h2⟩ := restA_views e3
      have hv := toD_views e1
      have vs : ∀ (l : List RV), views ρ1 l = views ρ l := fun l => by
        induction l with
        | nil => rfl
        | cons a l ih => unfold views; rw [hv, ih]
      refine ⟨fun q => (h1 q).trans (hv q), fun ds hd => ?_⟩
      obtain ⟨d, ds', f1, f2, rfl⟩ := (vc _ _ _ _).mp hd
      have := toD_view f1 e1
      subst this
      exact (vc _ _ _ _).mpr ⟨_, ds', rfl, h2 ds' (by rw [vs]; exact f2), rfl⟩
theorem readA_views {ρ : Env} : ∀ {qs : List RV} {args : List SV}, readA ρ qs = some args → views ρ qs = some (args.map svD)
  | [], args, h => by cases h; rfl
  | q :: qs, args, h => by
    unfold readA at h
    have go : ∀ {a : SV} {d : D}, svD a = d → view ρ q = some d → (readA ρ qs).map (a :: ·) = some args → views ρ (q :: qs) = some (args.map svD) := fun {a d} ea ev h => by
      cases e : readA ρ qs with
      | none => rw [e] at h; cases h
      | some vs' =>
        rw [e] at h
        cases h
        unfold views
        rw [ev, readA_views e]
        show some (d :: _) = some (svD a :: _)
        rw [ea]
    split at h
    · exact go rfl rfl h
    · split at h
      · rename_i w o ei
        exact go (d := fz o) rfl (by unfold view; dsimp only; rw [ei]) h
      · rename_i v ei
        exact go (d := v) rfl (by unfold view; dsimp only; rw [ei]) h
      · cases h
    · cases h
theorem rest_view2 {br : Nat → Bool} {j : Nat} {r q : RV} {ρ ρ' : Env} {C C' : Nat} {fs fs' : List (Nat × D)} {qs : List RV} {args : List SV} (h : view ρ r = some (.ins C fs)) (h' : view ρ q = some (.ins C' fs')) (h1 : restA br j [r, q] ρ = .ok qs ρ') (h2 : readA ρ' qs = some args) :
    ∃ sv sv' fs2 fs2', args = [sv, sv'] ∧ svD sv = .ins C fs2 ∧ svD sv' = .ins C' fs2' := by
  have hv : views ρ [r, q] = some [.ins C fs, .ins C' fs'] := by unfold views; rw [h]; unfold views; rw [h']; unfold views; rfl
  have h3 := (restA_views h1).2 _ hv
  rw [readA_views h2] at h3
  injection h3 with h3
  match args, h3 with
  | [sv, sv'], h3 =>
    injection h3 with a1 a2
    injection a2 with a2 _
    exact ⟨sv, sv', fs, fs', rfl, a1, a2⟩
  | [], h3 => cases h3
  | [_], h3 => injection h3 with _ h3; cases h3
  | _ :: _ :: _ :: _, h3 => injection h3 with _ h3; injection h3 with _ h3; cases h3
theorem run_eq {a a2 C dx dx2 g : Addr} {fv fv2 : List (Str × V)} {k : Nat} {fd : FuncData} {ps : List Str} {sp : Sp} {Q : VK} {E : XK} (hx : PassesAt (L2.CX X.prog X.w) X σ E) (I : Inv X pins σ H s) (ha : Rd H a (.ins C dx fv)) (ha2 : Rd H a2 (.ins C dx2 fv2))
    (F : FnOk X.prog X.w X.K X.mg X.base (L2.CX X.prog X.w) k g fd ps sp) (hr : Room k X.A) (hb : Binds X.K fd ps []) (hs : PySem.W.findIn X.K (.ref C) "__eq__" = some (some (.ref g))) (hf : PySem.W.isFn X.K (.ref g) = true) (h : sp [.ref a, .ref a2] H (fun v H' => ∃ k, v = .bl k ∧ Q v H') E) :
    wpAny (model X.prog X.w) X.A (compareOp .Eq (.ref a) (.ref a2)) (EP X pins σ Q) X.xe s := by
  obtain ⟨mA, O, _⟩ := ins_ok (ha.ok I.hok)
  obtain ⟨mB, O', _⟩ := ins_ok (ha2.ok I.hok)
  obtain ⟨od, J, _⟩ := O.look
  obtain ⟨od', J', _⟩ := O'.look
  obtain ⟨m, hF⟩ := I.fr
  show wpAny _ _ (richCompare .Eq (.ref a) (.ref a2)) _ _ _
  refine PySem.W.cmp_K (op := .Eq) (tb := .ref C) hr.units0 hF I.ok.mod.kin J J'.type (by simp [PySem.W.notFirst]) hs hf ?_
  have hl := F.len _ _ _ _ h
  have r2 : Vals [V.ref a, V.ref a2] [Value.ref a, Value.ref a2] := .cons rfl (.cons rfl .nil)
  refine wpAny_call (codeAny_mono (F.run X.A X.stack s H ⟨[.ref a, .ref a2], []⟩ [.ref a, .ref a2] [.ref a, .ref a2] _ E hr I.env0 (by
    have := hb s [.ref a, .ref a2] I.kIn (by simpa using hl)
    simpa using this) r2 h) fun r s' hq => ?_)
  cases r with
  | error e => exact hx pins H s e s' I hq
  | ok fl =>
    cases fl with
    | ret w =>
      obtain ⟨z, H', I', rz, k, ez, q⟩ := I.after hq
      subst ez
      cases rz
      exact ⟨.bl k, H', I', rfl, q⟩
    | next => exact False.elim hq
    | brk => exact False.elim hq
    | cont => exact False.elim hq
def eqB (q : R RV) : R RV := q.bind fun r ρ3 => (match asBl r with
        | some k => .ok (.d (.bl k)) ρ3
        | none => .bad)
theorem cmpF_cases (P : PI) (call : Call) (op : CmpOp) (r q : RV) (ρ : Env) : (∃ C fs f fs', op = .Eq ∧ view ρ r = some (.ins C fs) ∧ (P.ci C).eq = some f ∧ view ρ q = some (.ins C fs') ∧ cmpF P call op r q ρ = eqB (calling P call f [] [r, q] ρ)) ∨
    (∃ dx, view ρ r = some dx ∧ cmpF P call op r q ρ = R.opt ((view ρ q).bind fun y => (cmps op dx y).map fun b => .d (.bl b)) ρ) ∨ cmpF P call op r q ρ = .bad := by
  cases hv : view ρ r with
  | none => right; right; unfold cmpF; rw [hv]; cases op <;> rfl
  | some dx =>
    by_cases ho : op = .Eq ∧ ∃ C fs, dx = .ins C fs
    · obtain ⟨rfl, C, fs, rfl⟩ := ho
      cases he : (P.ci C).eq with
      | none => right; right; unfold cmpF; rw [hv]; dsimp only; rw [he]
      | some f =>
        cases hq : view ρ q with
        | none => right; right; unfold cmpF; rw [hv]; dsimp only; rw [he, hq]
        | some dy =>
          by_cases hd : ∃ fs', dy = .ins C fs'
          · obtain ⟨fs', rfl⟩ := hd
            left
            refine ⟨C, fs, f, fs', rfl, rfl, he, rfl, ?_⟩
            unfold cmpF
            rw [hv]
            dsimp only
            rw [he, hq]
            dsimp only
            rw [if_pos rfl]
            rfl
          · right; right
            unfold cmpF
            rw [hv]
            dsimp only
            rw [he, hq]
            cases dy with
            | ins C' fs' => dsimp only; rw [if_neg fun z => hd ⟨fs', by rw [z]⟩]
            | _ => rfl
    · right; left
      refine ⟨dx, rfl, ?_⟩
      unfold cmpF
      rw [hv]
      cases op with
      | Eq => cases dx with
        | ins C fs => exact absurd ⟨rfl, C, fs, rfl⟩ ho
        | _ => rfl
      | _ => cases dx <;> rfl
theorem cmpF_bl {op : CmpOp} {r q : RV} {ρ ρ' : Env} {x : RV} (h : cmpF P call op r q ρ = .ok x ρ') : ∃ k, x = .d (.bl k) := by
  rcases cmpF_cases P call op r q ρ with ⟨C, fs, f, fs', _, _, _, _, e⟩ | ⟨dx, _, e⟩ | e
  · rw [e] at h
    obtain ⟨y, ρ1, e1, e2⟩ := R.bind_ok h
    split at e2
    · cases e2; exact ⟨_, rfl⟩
    · cases e2
  · rw [e] at h
    obtain ⟨e, _⟩ := R.opt_ok h
    obtain ⟨dy, e1, e2⟩ := bind1 e
    obtain ⟨bv, e3, rfl⟩ := map_bl e2
    exact ⟨bv, rfl⟩
  · rw [e] at h
    cases h
theorem fd_cmp (xc : XC c N sc n X) (ck : ClsOk c kwT call m P) (hm : m ≤ n) (hx : PassW X W) {ea eb : Expr} {da db : Den} {op : CmpOp} {pos : Pos} (ha : FD c b W X ea da) (hb : FD c b W X eb db) (hs : notSetD eb = true) :
    FD c b W X (.Compare ea [op] [eb] pos) (vDen fun ρ => (da.v ρ).bind fun r ρ1 => (db.v ρ1).bind fun q ρ2 => cmpF P call op r q ρ2) := by
  refine fd_cmpRun (fun pins s σ H Q I hq => ?_) (fun ρ r ρ' e => ?_) hs
  · refine thn (ha.v.run pins s σ H _ I (val2_imp hq)) fun u s1 ⟨x, H1, I1, rx, hq⟩ => thn (hb.v.run pins s1 σ H1 _ I1 hq) fun v s2 ⟨y, H2, I2, ry, ρs, ρ, r, q, r0, r2, st, vs, hp⟩ => ?_
    have v1 : Rv c σ H H2 x r := by cases vs with | cons h _ _ => exact h
    have v2 : Rv c σ H H2 y q := by cases vs with | cons _ t _ => cases t with | cons h _ _ => exact h
    rcases cmpF_cases P call op r q ρ with ⟨C, fs, f, fs', eo, ev, ef, ev', ee⟩ | ⟨dx, ev, ee⟩ | ee
    · rw [ee] at hp
      subst eo
      obtain ⟨hC, _⟩ := (view_ok r2 v1 ev).ins
      obtain ⟨fe, ps, D, hl⟩ := ck.eq _ f hC ef
      have hq : Post c b W σ (Rv c σ) ρs H (calling P call f [] [r, q] ρ) (fun x H' => ∃ k, x = .bl k ∧ Q x H') := by
        cases ec : calling P call f [] [r, q] ρ with
        | bad => rw [ec] at hp; exact hp.elim
        | ex e ρ1 => rw [ec] at hp; exact hp
        | ok q' ρ1 =>
          rw [ec] at hp
          have hq : Post c b W σ (Rv c σ) ρs H (match asBl q' with
            | some k => .ok (.d (.bl k)) ρ1
            | none => .bad) (Q) := hp
          split at hq
          · rename_i k ek
            have er : q' = .d (.bl k) := by
              unfold asBl at ek
              split at ek
              · cases ek; rfl
              · cases ek
            subst er
            intro x H' a1 a2 a3
            have a3' : Rp c H' x (.bl k) := a3
            cases a3'
            exact ⟨k, rfl, hq _ H' a1 a2 (.bl k)⟩
          · exact hq.elim
      obtain ⟨H3, qs, ρ1, args, e1, e2, I3, a3, p3⟩ := calling_run' I2 r0 r2 st vs hq
      obtain ⟨sv, sv', fs2, fs2', rfl, h1, h2⟩ := rest_view2 ev ev' e1 e2
      obtain ⟨x1, f1, g1⟩ := a3.at_ 0 sv rfl
      obtain ⟨x2, f2, g2⟩ := a3.at_ 1 sv' rfl
      cases f1
      cases f2
      obtain ⟨_, a, dx, fv, rfl, ha', _⟩ := (Sv.vw g1 h1).ins
      obtain ⟨_, a2, dx2, fv2, rfl, ha2', _⟩ := (Sv.vw g2 h2).ins
      cases rx
      cases ry
      obtain ⟨fd, F, hbi, _⟩ := D.cast xc
      exact run_eq (hx σ) I3 ha' ha2' F (xc.room.mono hm) hbi (by rw [xc.K]; exact fe) (by rw [xc.K]; exact D.isF) ⟨_, a3, p3⟩
    · rw [ee] at hp
      obtain ⟨rr, e0, hq⟩ := hp.opt
      obtain ⟨dy, e1, e2⟩ := bind1 e0
      exact ops_cmp xc op pins s2 σ H2 x y u v Q I2 rx ry ⟨dx, dy, rr, view_ok r2 v1 ev, view_ok r2 v2 e1, e2, fun z H' res => Res.post st r2 hq res⟩
    · rw [ee] at hp
      exact hp.elim
  · obtain ⟨r1, ρ1, _, e⟩ := R.bind_ok e
    obtain ⟨r2, ρ2, _, e⟩ := R.bind_ok e
    exact cmpF_bl e
end
end Fl
set_option Elab.async false
set_option linter.all false
set_option maxRecDepth 100000
set_option maxHeartbeats 4000000
/-! Layer F, part 13: new instances. -/
namespace Fl
open PySem PySem.Spec PyProof.Rows L2 NdefX LamX
structure MkOk (c : SC) (kwT : KwT) (call : Call) (m : Nat) (C f : Nat) (x : Str) : Prop where
  isC : c.isCls C = true
  mkr : Mk c.K (c.clsA C) (c.fnA f)
  def_ : ∃ ps, DefOk c kwT call m f ps
  mg : c.mg x = some (.ref (c.clsA C))
section
variable {X : Cx} {pins : List (Addr × Obj)} {s : Shared} {σ : L2.St} {ρs ρ : Env} {Hs H H1 : Hp} {c : SC} {b : Bs} {W : WX} {N : List Str} {sc : Scope} {n m : Nat} {kwT : KwT} {call : Call} {P : PI}
theorem made_ok {r : RV} {as : List SV} {qs : List RV} {ρ : Env} {Q : VK} {ρs : Env} {H0 : Hp} (h : Post c b W σ (Rv c σ) ρs H0 (made qs ρ (.ok r as)) Q) : ∃ w o as', r = .d .non ∧ as = .m w o :: as' ∧ Post c b W σ (Rv c σ) ρs H0 (.ok (.n o) (takeBack qs as' ρ)) Q := by
  unfold made at h
  split at h
  · rename_i w o as' e
    cases e
    exact ⟨w, o, as', rfl, rfl, h⟩
  · rename_i e; cases e
  · exact h.elim
theorem made_ex {e : Exn} {as : List SV} {qs : List RV} {ρ : Env} {Q : VK} {ρs : Env} {H0 : Hp} (h : Post c b W σ (Rv c σ) ρs H0 (made qs ρ (.ex e as)) Q) : ∃ a as', as = a :: as' ∧ Post c b W σ (Rv c σ) ρs H0 (.ex e (takeBack qs as' ρ)) Q := by
  unfold made at h
  split at h
  · rename_i e; cases e
  · rename_i e' a as' ee
    cases ee
    exact ⟨a, as', rfl, h⟩
  · exact h.elim
theorem newing_run {Q : VK} {C f : Nat} {xs : List V} {rs : List RV} (hC : c.isCls C = true) (I : Inv X pins σ H s) (r0 : ER c b σ ρs Hs) (r : ER c b σ ρ H) (st : Stp σ ρs Hs ρ H) (v : RvL c σ Hs H xs rs)
    (hq : Post c b W σ (Rv c σ) ρs Hs (newing P call C f rs ρ) Q) : ∃ H2, Inv X pins σ H2 s ∧ ∀ x dx, H2 x = none → H2 dx = none → dx ≠ x →
      spF c call f [] (.ref x :: xs) (upd (upd H2 dx (.own x)) x (.ins (c.clsA C) dx [])) (fun v H3 => v = .non ∧ Q (.ref x) H3) (fun cls d H' => W cls d σ H') := by
  unfold newing at hq
  cases e1 : restA (fun j => P.byRef f (j + 1)) 0 rs ρ with
  | bad => rw [e1] at hq; exact hq.elim
  | ex e ρ1 => exact absurd e1 restA_noex
  | ok qs ρ1 =>
    rw [e1] at hq
    have hq : Post c b W σ (Rv c σ) ρs Hs (if (slotsR qs).Nodup then (match readA ρ1 qs with
      | some vs => made qs ρ1 (call f [] (.m false (.i C []) :: vs))
      | none => .bad) else .bad) Q := hq
    split at hq
    · rename_i nd
      split at hq
      · rename_i args ea
        obtain ⟨H2, I2, r2, st2, n2, P2⟩ := ghostA r0 I r st v e1
        refine ⟨H2, I2, fun x dx hx hdx ne => ?_⟩
        have ao := args_ok r2 n2 nd ea
        generalize eH : upd (upd H2 dx (.own x)) x (.ins (c.clsA C) dx []) = H3
        have ext : ∀ a o, H2 a = some o → H3 a = some o := fun a o h => by
          rw [← eH, upd_ne (ne_of_none h hx), upd_ne (ne_of_none h hdx)]
          exact h
        have P3 : Pers H2 H3 := .of ext
        have hx3 : H3 x = some (.ins (c.clsA C) dx []) := by rw [← eH, upd_same]
        have mo3 : Mo c H3 x (.i C []) := ⟨hC, dx, [], hx3, rfl, .nil⟩
        have sv3 : ∀ {y : V} {sv : SV}, Sv c H2 y sv → Sv c H3 y sv := fun {y sv} h => by
          cases sv with
          | d v => exact Rp.pers P3 h
          | m w o =>
            obtain ⟨a, ea, mo⟩ := h
            obtain ⟨u, eu, _⟩ := mo.mut
            exact ⟨a, ea, mo.stay ((ext a u eu).trans eu.symm) P3⟩
        have ao3 : ArgsOk c H3 (.ref x :: xs) (.m false (.i C []) :: args) := by
          refine ⟨by rw [List.length_cons, List.length_cons, ao.len], fun j sv h => ?_, fun j w o h => ?_, fun i j w w' o o' a h1 h2 g1 g2 => ?_, ao.tabs.ext ext⟩
          · cases j with
            | zero => cases h; exact ⟨_, rfl, x, rfl, mo3⟩
            | succ j =>
              obtain ⟨y, e2, h2⟩ := ao.at_ j sv (by simpa using h)
              exact ⟨y, by simpa using e2, sv3 h2⟩
          · cases j with
            | zero => cases h; rfl
            | succ j => exact ao.own j w o (by simpa using h)
          · have no : ∀ (j : Nat) w o, args[j]? = some (.m w o) → xs[j]? ≠ some (.ref x) := fun j w o h g => by
              obtain ⟨y, e2, h2⟩ := ao.at_ j _ h
              rw [g] at e2
              cases e2
              obtain ⟨a, ea, mo⟩ := h2
              cases ea
              obtain ⟨u, eu, _⟩ := mo.mut
              rw [hx] at eu
              cases eu
            cases i with
            | zero =>
              cases j with
              | zero => rfl
              | succ j =>
                cases g1
                exact absurd (by simpa using g2) (no j w' o' (by simpa using h2))
            | succ i =>
              cases j with
              | zero =>
                cases g2
                exact absurd (by simpa using g1) (no i w o (by simpa using h1))
              | succ j => rw [ao.apart i j w w' o o' a (by simpa using h1) (by simpa using h2) (by simpa using g1) (by simpa using g2)]
        refine ⟨_, ao3, ?_⟩
        have af3 : ∀ {H' : Hp} {a0 : SV} {as' : List SV}, AfterOk c H3 H' (.ref x :: xs) (.m false (.i C []) :: args) (a0 :: as') → AfterOk c H2 H' xs args as' := fun {H' a0 as'} af => by
          refine ⟨by have := af.len; simpa using this, fun a o h nm nt => af.fr a o (ext a o h) (fun j mo h1 h2 => ?_) nt, fun a ps h => af.frT a ps (ext a _ h), af.tabs, fun j mo a h1 h2 => ?_⟩
          · cases j with
            | zero => cases h2; rw [hx] at h; cases h
            | succ j => exact nm j mo (by simpa using h1) (by simpa using h2)
          · obtain ⟨o', g1, g2⟩ := af.mu (j + 1) mo a (by simpa using h1) (by simpa using h2)
            exact ⟨o', by simpa using g1, g2⟩
        cases ec : call f [] (.m false (.i C []) :: args) with
        | bad => rw [ec] at hq; exact hq.elim
        | ok q as =>
          rw [ec] at hq
          obtain ⟨w, o, as', rfl, rfl, hq⟩ := made_ok hq
          intro y H' af hy
          cases hy
          refine ⟨rfl, ?_⟩
          obtain ⟨r3, s3⟩ := after_ok r2 n2 nd ea (af3 af)
          obtain ⟨o', g1, g2⟩ := af.mu 0 _ x rfl rfl
          cases g1
          exact hq (.ref x) H' r3 (st2.trans s3) ⟨x, rfl, g2, st2.tr x hx⟩
        | ex e as =>
          rw [ec] at hq
          obtain ⟨a0, as', rfl, hq⟩ := made_ex hq
          intro cls d H' af he
          obtain ⟨r3, s3⟩ := after_ok r2 n2 nd ea (af3 af)
          exact hq cls d H' r3 (st2.trans s3) he
      · exact hq.elim
    · exact hq.elim
theorem run_makeS {C f : Addr} {fd : FuncData} {ps : List Str} {sp : Sp} {k : Nat} {E : XK} {Q : VK} {us : List Value} {vs : List V} (M : Mk X.K C f) (F : FnOk X.prog X.w X.K X.mg X.base (L2.CX X.prog X.w) k f fd ps sp) (hr : Room (k + 1) X.A) (hb : Binds X.K fd ps [])
    (hx : PassesAt (L2.CX X.prog X.w) X σ E) (I : Inv X pins σ H s) (r : Vals vs us)
    (h : ∀ x dx, H x = none → H dx = none → dx ≠ x → sp (.ref x :: vs) (upd (upd H dx (.own x)) x (.ins C dx [])) (fun v H2 => v = .non ∧ Q (.ref x) H2) E) :
    wpAny (model X.prog X.w) X.A (PySem.call (.ref C) us) (EP X pins σ Q) X.xe s := by
  have hq := h (s.heap.objs.size + 1) s.heap.objs.size (I.hok.fresh (Nat.le_succ _)) (I.hok.fresh (Nat.le_refl _)) (Nat.ne_of_lt (Nat.lt_succ_self _))
  have I2 := Inv.made (C := C) I
  have r2 : Vals (V.ref (s.heap.objs.size + 1) :: vs) (Value.ref (s.heap.objs.size + 1) :: us) := .cons rfl r
  have hl : (Value.ref (s.heap.objs.size + 1) :: us ++ []).length = ps.length := by
    have e := r2.length
    rw [F.len _ _ _ _ hq] at e
    rw [List.append_nil]
    exact e.symm
  have bt := hb _ (Value.ref (s.heap.objs.size + 1) :: us) I2.kIn hl
  rw [List.append_nil] at bt
  refine wpAny_call (make_map (f := f) I.kIn M.makes M.init (beq_iff_eq.mp M.fn) (codeAny_mono (F.run _ X.stack _ _ ⟨Value.ref (s.heap.objs.size + 1) :: us, []⟩ (Value.ref (s.heap.objs.size + 1) :: us) _ _ E (hr.make C us [])
    (I2.env0.make C us []) bt r2 hq) fun r s' hq' => ?_))
  cases r with
  | error e => exact hx pins _ _ e s' I2 hq'
  | ok fl =>
    cases fl with
    | ret u =>
      obtain ⟨v, H', I3, rv, ev, q3⟩ := I2.after hq'
      subst ev
      exact ⟨rv, ⟨V.ref (s.heap.objs.size + 1), H', I3, rfl, q3⟩⟩
    | next => exact False.elim hq'
    | brk => exact False.elim hq'
    | cont => exact False.elim hq'
theorem fd_new (xc : XC c N sc n X) {C f : Nat} {x : Str} (M : MkOk c kwT call m C f x) (hm : m + 1 ≤ n) (hx : PassW X W) {p pos : Pos} {e : Expr} {es : List Expr} {d : Den} (hg : sc.names.lookup x = some .globalImplicit) (hdb : (x == ("__debug__" : Str)) = false)
    (hs : (e :: es).all notStar = true) (ha : PA X (e :: es) (tFL c b W d.l)) : FD c b W X (.Call (.Name x p) (e :: es) [] pos) (vDen fun ρ => (d.l ρ).bind fun rs ρ1 => newing P call C f rs ρ1) := by
  have hs' := hs
  rw [List.all_cons, Bool.and_eq_true] at hs'
  have hg' : Gl X x := by show X.env.scope.names.lookup x = _; rw [xc.sc]; exact hg
  obtain ⟨ps, D⟩ := M.def_
  obtain ⟨fd, F, hb, _⟩ := D.cast xc
  have Mk' : Mk X.K (c.clsA C) (c.fnA f) := by rw [xc.K]; exact M.mkr
  refine fd_plain xc ⟨fun pins s σ H Q I h => ?_⟩ fun _ => rfl
  refine wpAny_Call_Name_kw (ld_glob I hg' (by rw [xc.mg]; exact M.mg) ?_ hdb)
  refine PySem.W.callWith_K (h₀ := X.base) I.ok.mod.kin Mk'.kp (thn (ha.run pos pins s σ H _ I (arg_imp h)) fun us s1 ⟨vs, H1, I1, r, ρs, ρ, rs, r0, r1, st, v, _, q⟩ => ⟨I1.kIn, ?_⟩) (star_cons hs'.1) (backTo_plain hs'.2)
  obtain ⟨H2, I2, sp⟩ := newing_run M.isC I1 r0 r1 st v q
  exact run_makeS Mk' F (xc.room.mono hm) hb (hx σ) I2 r sp
end
end Fl
set_option Elab.async false
set_option linter.all false
set_option maxRecDepth 100000
set_option maxHeartbeats 4000000
/-! Layer F, part 14: what is taken item by item. -/
namespace PySem
namespace FlX
set_option maxHeartbeats 1000000 in
theorem meets_enumerate_newT {v : Value} {o : Obj} {H : Heap → Prop} (B : Begins v o H) :
    Meets (Builtin.«enumerate.__new__» ⟨[.type "enumerate", v], []⟩) (fun _ R s => H s.heap ∧
      R (.ok (.ret (.ref (s.heap.push o).objs.size))) { s with heap := (s.heap.push o).push { cls := .type "enumerate", data := .fields #[.none, .bool false, .ref s.heap.objs.size, rawInt 0, .none, .none] } }) :=
  .of_wp fun prog w A R s h => by
    obtain ⟨hp, g, d, tk, os⟩ := s; obtain ⟨h1, h⟩ := h
    have hsub := sub_enumerate
    have q1 : ∀ {A' : Around} {E : Value → Shared → Prop} {Q : Value → Shared → Prop}, Q (.ref hp.objs.size) ⟨hp.push o, g, d, tk, os⟩ → wpAny (model prog w) A' (pyIter v) Q E ⟨hp, g, d, tk, os⟩ :=
      fun q => B.iter prog w _ _ ⟨hp, g, d, tk, os⟩ _ h1 q
    wp_walk using q1
    refine wpAny_stack_any fun st => wpAny_pure ?_
    split
    · rename_i c _ _ _ _ _
      cases (c == Value.type "enumerate")
      · wp_walk using q1
        exact ⟨_, rfl, h⟩
      · wp_walk using q1
        exact ⟨_, rfl, h⟩
    · wp_walk using q1
      exact ⟨_, rfl, h⟩
theorem call_enumerateT {prog : Program} {w : World} {A : Around} {E : Value → Shared → Prop} {s : Shared} {v : Value} {o : Obj} {H : Heap → Prop} {Q : Value → Shared → Prop} (B : Begins v o H) (h1 : H s.heap)
    (h : ∀ h', IsEnum h' (s.heap.objs.size + 1) s.heap.objs.size 0 .none → h'.get? s.heap.objs.size = some o → h'.objs.size = s.heap.objs.size + 2 →
      (∀ b o, s.heap.get? b = some o → h'.get? b = some o) → Q (.ref (s.heap.objs.size + 1)) { s with heap := h' }) :
    wpAny (model prog w) A (call (.type "enumerate") [v]) Q E s := by
  refine callType_new F.called_enumerate (by decide) (F.typeCall_enumerate_1 _) (F.newCall_enumerate_1 _) (fun obj => F.args_object_init_2 obj _) F.entry_enumerate_new
    (meets_enumerate_newT B) ⟨h1, ?_⟩
  have hz : (s.heap.push o).objs.size = s.heap.objs.size + 1 := Heap.size_push ..
  show _ ∧ _
  rw [hz]
  have he : IsEnum ((s.heap.push o).push { cls := .type "enumerate", data := .fields #[.none, .bool false, .ref s.heap.objs.size, rawInt 0, .none, .none] }) (s.heap.objs.size + 1) s.heap.objs.size 0 .none := by
    have := Heap.get?_push_size (s.heap.push o) (o := { cls := .type "enumerate", data := .fields #[.none, .bool false, .ref s.heap.objs.size, rawInt 0, .none, .none] }) rfl
    rw [hz] at this; exact this
  refine ⟨⟨_, he, rfl⟩, h _ he (Heap.get?_push_of_some _ (Heap.get?_push_size _ B.free)) (by rw [Heap.size_push, hz]) fun b o x => Heap.get?_push_of_some _ (Heap.get?_push_of_some _ x)⟩
end FlX
end PySem
namespace Fl
open PySem PySem.Spec PyProof.Rows L2 NdefX LamX
/-- the tuple at a, each item in a new pair -/
def IteT (K : PySem.W.Frag) (a : Addr) : It :=
  ⟨fun i H => ∃ (xs : List V) (x : V), SqT K H a xs ∧ xs[i]? = some x, fun i H v H' => ∃ T x, v = .ref T ∧ H T = none ∧ H' = upd H T (.tup [.int (i : Nat), x]) ∧ ∀ xs, SqT K H a xs → xs[i]? = some x, fun i H => ∃ xs : List V, SqT K H a xs ∧ xs.length = i⟩
theorem turn_enumT {P : Program} {w : World} {K : PySem.W.Frag} {elts : List Expr} {kk : Nat} {tpos : Pos} (a e it : Addr) :
    Turn P w K (.Tuple elts kk tpos) (IteT K a) [e, it] e (fun i h => (∃ old, IsEnum h e it ((i : Nat) : Int) old) ∧ h.IsTupleIter it a i ∧ e ≠ it) where
  mem := by simp
  obj := fun i h st b hb => by
    obtain ⟨⟨old, he⟩, ⟨o, ho, hc, hd⟩, _⟩ := st
    have e' : b = e ∨ b = it := by simpa using hb
    rcases e' with z | z
    · rw [z]; exact ⟨_, he, fun v q => nomatch q⟩
    · rw [z]; exact ⟨o, ho, fun v q => by rw [hd] at q; cases q⟩
  keep := fun i h h' st k => let ⟨⟨old, he⟩, hi, hne⟩ := st; ⟨⟨old, k e (by simp) _ he⟩, hi.at fun o q => k it (by simp) o q, hne⟩
  item := by
    intro X hP hw hK hc i pins s σ H E I hf st hg
    subst hP hw hK
    obtain ⟨⟨old, he⟩, hit, hne⟩ := st
    obtain ⟨xs, x, hq, hx⟩ := hg
    obtain ⟨its, rv, p, hz⟩ := I.tuple hq
    obtain ⟨u, hu, ru⟩ := rv.get hx
    have hel : e < s.heap.objs.size := Heap.lt_size he
    have hil : it < s.heap.objs.size := by obtain ⟨_, q, _⟩ := hit; exact Heap.lt_size q
    have hal : s.heap.IsTuple a its.toArray := p
    obtain ⟨oa, hoa, hca, na, hda⟩ := id hal
    have hai : a ≠ it := fun z => by
      obtain ⟨o2, h2, c2, d2⟩ := hit
      rw [← z, hoa] at h2
      cases h2
      rw [hda] at d2
      cases d2
    have hae : a ≠ e := fun z => by
      rw [z] at hoa
      rw [he] at hoa
      cases hoa
      cases hda
    have hlt : i < its.toArray.size := by
      have := (List.getElem?_eq_some_iff.mp hu).1
      simpa using this
    refine wpAny_pyNext_enum_itemD (Draws.tuple (A := X.A.in1) (I.ok.hd hc) it a hai its.toArray) he ⟨hit, hal⟩ hlt hne (by simp [hne, Ne.symm hae]) fun x' h' tk hx' ho hst' hT hsz hk => ?_
    have ex : x' = u := by
      have hx' : its.toArray[i]? = some x' := hx'
      rw [List.getElem?_toArray, hu] at hx'
      exact (Option.some.inj hx').symm
    subst ex
    obtain ⟨hit', _⟩ := hst'
    refine ⟨_, rfl, wpAny_letOwnedTupleGo_enum (s := { s with heap := h', toks := tk + 1 }) ho fun h'' he' sb => ?_⟩
    have hT2 : h''.get? s.heap.objs.size = some { cls := .type "tuple", data := .seq #[.int i tk, x'] } := (sb.2 _ (Nat.ne_of_gt hel)).trans hT
    have new : ObjOk X.prog X.w (upd H s.heap.objs.size (.tup [.int (i : Nat), x])) h'' s.heap.objs.size (.tup [.int (i : Nat), x]) :=
      ⟨by show 2 ≤ sizeLine; decide, [.int i tk, x'], .cons ⟨_, rfl⟩ (.cons ru .nil), ⟨_, hT2, rfl, _, rfl⟩⟩
    have I1 : Inv X pins σ (upd H s.heap.objs.size (.tup [.int (i : Nat), x])) { s with heap := h'', toks := tk + 1 } :=
      I.turnedNew (ch := [e, it]) (fun b ob hb q => (sb.2 b (fun z => hb (by simp [z]))).trans (hk b ob (fun z => hb (by simp [z])) (fun z => hb (by simp [z])) q)) hf (Nat.le_refl _) new
    refine ⟨.ref s.heap.objs.size, _, I1, rfl, ⟨_, x, rfl, I.hok.fresh (Nat.le_refl _), rfl, fun ys hy => by rw [I.tuple_inj hy hq]; exact hx⟩, ⟨⟨x', ?_⟩, hit'.at fun o q => (sb.2 it (Ne.symm hne)).trans q, hne⟩, fun b hb => ?_⟩
    · have e1 : ((i + 1 : Nat) : Int) = (i : Int) + 1 := by omega
      rw [e1]; exact he'
    · have hb' : b < s.heap.objs.size := by
        have e' : b = e ∨ b = it := by simpa using hb
        rcases e' with z | z
        · rw [z]; exact hel
        · rw [z]; exact hil
      rw [upd_ne (Nat.ne_of_lt hb')]
      exact (hf b hb).1
  done := by
    intro X hP hw hK hc i pins s σ H E I hf st hg
    subst hP hw hK
    obtain ⟨⟨old, he⟩, hit, hne⟩ := st
    obtain ⟨xs, hq, hx⟩ := hg
    obtain ⟨its, rv, p, hz⟩ := I.tuple hq
    obtain ⟨f0, f1, f2, f3, f4, f5⟩ := hf it (by simp)
    have hl := rv.length
    have hal : s.heap.IsTuple a its.toArray := p
    obtain ⟨oa, hoa, hca, na, hda⟩ := id hal
    have hai : a ≠ it := fun z => by
      obtain ⟨o2, h2, c2, d2⟩ := hit
      rw [← z, hoa] at h2
      cases h2
      rw [hda] at d2
      cases d2
    have ez : its.toArray.size = i := by rw [List.size_toArray, ← hl]; exact hx
    exact wpAny_pyNext_enum_endD (Draws.tuple (A := X.A.in1) (I.ok.hd hc) it a hai its.toArray) he ⟨by rw [ez]; exact hit, hal⟩ fun h' eb => ⟨rfl, I.turned (t' := s.toks) (fun b o hb q => eb b o hb q) f0 f1 f3 f4 f5⟩
  self := fun A i s Q E st h => let ⟨⟨_, he⟩, _⟩ := st; wpAny_pyIter_enum he h
/-! ### the iterators, by their items -/
def Walks (c : SC) (J : It) (H1 : Hp) (xs : List D) : Prop := ∀ (i : Nat) (H : Hp), Pers H1 H → (i < xs.length → J.go i H ∧ ∀ x H', J.yld i H x H' → (∀ a o, H a = some o → H' a = some o) ∧ ∃ d, xs[i]? = some d ∧ Rp c H' x d) ∧ (i = xs.length → J.stop i H)
section
variable {X : Cx} {pins : List (Addr × Obj)} {s : Shared} {σ : L2.St} {H : Hp} {c : SC} {b : Bs} {W : WX} {N : List Str} {sc : Scope} {n m : Nat} {tg : Expr}
theorem walks_list {a : Addr} {vs : List V} {ds : List D} (ha : FzL c.K H a vs) (t : RpL c H vs ds) : Walks c (Itl c.K a) H ds := fun i H' p => by
  have ha' := (p.fzL ha).sq
  refine ⟨fun hi => ?_, fun hi => ⟨vs, ha', by rw [t.length]; omega⟩⟩
  obtain ⟨x, e1, r⟩ := t.get (List.getElem?_eq_getElem hi)
  refine ⟨⟨vs, x, ha', e1⟩, fun y H2 hy => ?_⟩
  obtain ⟨rfl, hy⟩ := hy
  have := hy vs ha'
  rw [e1] at this
  cases this
  exact ⟨fun _ _ h => h, _, List.getElem?_eq_getElem hi, r.pers p⟩
theorem walks_tup {a : Addr} {vs : List V} {ds : List D} (ha : ∀ H', Pers H H' → SqT c.K H' a vs) (t : RpL c H vs ds) : Walks c (Itt c.K a) H ds := fun i H' p => by
  have ha' := ha H' p
  refine ⟨fun hi => ?_, fun hi => ⟨vs, ha', by rw [t.length]; omega⟩⟩
  obtain ⟨x, e1, r⟩ := t.get (List.getElem?_eq_getElem hi)
  refine ⟨⟨vs, x, ha', e1⟩, fun y H2 hy => ?_⟩
  obtain ⟨rfl, hy⟩ := hy
  have := hy vs ha'
  rw [e1] at this
  cases this
  exact ⟨fun _ _ h => h, _, List.getElem?_eq_getElem hi, r.pers p⟩
theorem walks_str {x : Str} : Walks c (Its x) H (x.cps.toList.map fun c => .str ⟨#[c]⟩) := fun i H' p => by
  refine ⟨fun hi => ?_, fun hi => ?_⟩
  · rw [List.length_map, Array.length_toList] at hi
    refine ⟨hi, fun y H2 hy => ?_⟩
    obtain ⟨rfl, ch, e1, rfl⟩ := hy
    refine ⟨fun _ _ h => h, .str ⟨#[ch]⟩, ?_, .str _⟩
    rw [List.getElem?_map, Array.getElem?_toList, e1]
    rfl
  · show x.cps.size ≤ i
    rw [hi, List.length_map, Array.length_toList]
    exact Nat.le_refl _
theorem rngD_get : ∀ (n : Nat) (lo : Int) (i : Nat), i < n → (rngD lo n)[i]? = some (.int (lo + i))
  | 0, _, _, h => absurd h (by omega)
  | n + 1, lo, 0, _ => by show some (D.int lo) = some (D.int (lo + (0 : Nat))); congr 2; omega
  | n + 1, lo, i + 1, h => by
    show (rngD (lo + 1) n)[i]? = _
    rw [rngD_get n (lo + 1) i (by omega)]
    congr 2
    omega
theorem rngD_len : ∀ (n : Nat) (lo : Int), (rngD lo n).length = n
  | 0, _ => rfl
  | n + 1, lo => by show (rngD (lo + 1) n).length + 1 = n + 1; rw [rngD_len]
theorem walks_rng {lo : Int} {k : Nat} : Walks c (Itr lo k) H (rngD lo k) := fun i H' p => by
  rw [rngD_len]
  refine ⟨fun hi => ⟨hi, fun y H2 hy => ?_⟩, fun hi => Nat.le_of_eq hi.symm⟩
  obtain ⟨rfl, rfl⟩ := hy
  exact ⟨fun _ _ h => h, _, rngD_get k lo i hi, .int _⟩
theorem enumD_get : ∀ (ds : List D) (k i : Nat) (d : D), ds[i]? = some d → (enumD k ds)[i]? = some (.tup [.int (k + i : Nat), d])
  | [], _, _, _, h => by simp at h
  | x :: ds, k, 0, d, h => by simp at h; subst h; rfl
  | x :: ds, k, i + 1, d, h => by
    show (enumD (k + 1) ds)[i]? = _
    rw [enumD_get ds (k + 1) i d (by simpa using h)]
    have e : k + 1 + i = k + (i + 1) := by omega
    rw [e]
theorem enumD_len : ∀ (ds : List D) (k : Nat), (enumD k ds).length = ds.length
  | [], _ => rfl
  | x :: ds, k => by show (enumD (k + 1) ds).length + 1 = _; rw [enumD_len]; rfl
theorem new_pair {H' : Hp} {T : Addr} {x y : V} {d e : D} (hT : H' T = none) (h1 : Rp c H' x d) (h2 : Rp c H' y e) : (∀ a o, H' a = some o → upd H' T (.tup [x, y]) a = some o) ∧ Rp c (upd H' T (.tup [x, y])) (.ref T) (.tup [d, e]) :=
  ⟨fun a o h => by rw [upd_ne (ne_of_none h hT)]; exact h, .tup upd_same (.cons (h1.pers (grown hT)) (.cons (h2.pers (grown hT)) .nil))⟩
theorem walks_enumL {a : Addr} {vs : List V} {ds : List D} (ha : FzL c.K H a vs) (t : RpL c H vs ds) : Walks c (Ite c.K a) H (enumD 0 ds) := fun i H' p => by
  have ha' := (p.fzL ha).sq
  rw [enumD_len]
  refine ⟨fun hi => ?_, fun hi => ⟨vs, ha', by rw [t.length]; omega⟩⟩
  obtain ⟨x, e1, r⟩ := t.get (List.getElem?_eq_getElem hi)
  refine ⟨⟨vs, x, ha', e1⟩, fun y H2 hy => ?_⟩
  obtain ⟨T, x', rfl, hT, rfl, hy⟩ := hy
  have := hy vs ha'
  rw [e1] at this
  cases this
  obtain ⟨g, q⟩ := new_pair (d := .int (i : Nat)) hT (.int _) (r.pers p)
  refine ⟨g, _, ?_, q⟩
  rw [enumD_get ds 0 i _ (List.getElem?_eq_getElem hi), Nat.zero_add]
theorem walks_enumT {a : Addr} {vs : List V} {ds : List D} (ha : ∀ H', Pers H H' → SqT c.K H' a vs) (t : RpL c H vs ds) : Walks c (IteT c.K a) H (enumD 0 ds) := fun i H' p => by
  have ha' := ha H' p
  rw [enumD_len]
  refine ⟨fun hi => ?_, fun hi => ⟨vs, ha', by rw [t.length]; omega⟩⟩
  obtain ⟨x, e1, r⟩ := t.get (List.getElem?_eq_getElem hi)
  refine ⟨⟨vs, x, ha', e1⟩, fun y H2 hy => ?_⟩
  obtain ⟨T, x', rfl, hT, rfl, hy⟩ := hy
  have := hy vs ha'
  rw [e1] at this
  cases this
  obtain ⟨g, q⟩ := new_pair (d := .int (i : Nat)) hT (.int _) (r.pers p)
  refine ⟨g, _, ?_, q⟩
  rw [enumD_get ds 0 i _ (List.getElem?_eq_getElem hi), Nat.zero_add]
theorem zipD_get : ∀ (xs ys : List D) (i : Nat) (d e : D), xs[i]? = some d → ys[i]? = some e → (zipD xs ys)[i]? = some (.tup [d, e])
  | [], _, _, _, _, h, _ => by simp at h
  | _ :: _, [], _, _, _, _, h => by simp at h
  | x :: xs, y :: ys, 0, d, e, h1, h2 => by simp at h1 h2; subst h1 h2; rfl
  | x :: xs, y :: ys, i + 1, d, e, h1, h2 => zipD_get xs ys i d e (by simpa using h1) (by simpa using h2)
theorem zipD_len : ∀ (xs ys : List D), (zipD xs ys).length = min xs.length ys.length
  | [], _ => by simp [zipD]
  | _ :: _, [] => by simp [zipD]
  | x :: xs, y :: ys => by
    show (zipD xs ys).length + 1 = _
    rw [zipD_len, List.length_cons, List.length_cons]
    omega
theorem walks_zipL {a a2 : Addr} {vs vs2 : List V} {ds ds2 : List D} (ha : FzL c.K H a vs) (t : RpL c H vs ds) (ha2 : FzL c.K H a2 vs2) (t2 : RpL c H vs2 ds2) : Walks c (Itz c.K a a2) H (zipD ds ds2) := fun i H' p => by
  have h1 := (p.fzL ha).sq
  have h2 := (p.fzL ha2).sq
  rw [zipD_len]
  refine ⟨fun hi => ?_, fun hi => ⟨vs, vs2, h1, h2, by rw [t.length, t2.length]; omega⟩⟩
  have i1 : i < ds.length := by omega
  have i2 : i < ds2.length := by omega
  obtain ⟨x, e1, r⟩ := t.get (List.getElem?_eq_getElem i1)
  obtain ⟨x2, e2, r2⟩ := t2.get (List.getElem?_eq_getElem i2)
  refine ⟨⟨vs, vs2, x, x2, h1, h2, e1, e2⟩, fun y H2 hy => ?_⟩
  obtain ⟨T, x', y', rfl, hT, rfl, hx, hy⟩ := hy
  have q1 := hx vs h1
  have q2 := hy vs2 h2
  rw [e1] at q1
  rw [e2] at q2
  cases q1
  cases q2
  obtain ⟨g, q⟩ := new_pair hT (r.pers p) (r2.pers p)
  exact ⟨g, _, zipD_get ds ds2 i _ _ (List.getElem?_eq_getElem i1) (List.getElem?_eq_getElem i2), q⟩
theorem walks_zipT {a a2 : Addr} {vs vs2 : List V} {ds ds2 : List D} (ha : ∀ H', Pers H H' → SqT c.K H' a vs) (t : RpL c H vs ds) (ha2 : ∀ H', Pers H H' → SqT c.K H' a2 vs2) (t2 : RpL c H vs2 ds2) : Walks c (RZ.ItzT c.K a a2) H (zipD ds ds2) := fun i H' p => by
  have h1 := ha H' p
  have h2 := ha2 H' p
  rw [zipD_len]
  refine ⟨fun hi => ?_, fun hi => ⟨vs, vs2, h1, h2, by rw [t.length, t2.length]; omega⟩⟩
  have i1 : i < ds.length := by omega
  have i2 : i < ds2.length := by omega
  obtain ⟨x, e1, r⟩ := t.get (List.getElem?_eq_getElem i1)
  obtain ⟨x2, e2, r2⟩ := t2.get (List.getElem?_eq_getElem i2)
  refine ⟨⟨vs, vs2, x, x2, h1, h2, e1, e2⟩, fun y H2 hy => ?_⟩
  obtain ⟨T, x', y', rfl, hT, rfl, hx, hy⟩ := hy
  have q1 := hx vs h1
  have q2 := hy vs2 h2
  rw [e1] at q1
  rw [e2] at q2
  cases q1
  cases q2
  obtain ⟨g, q⟩ := new_pair hT (r.pers p) (r2.pers p)
  exact ⟨g, _, zipD_get ds ds2 i _ _ (List.getElem?_eq_getElem i1) (List.getElem?_eq_getElem i2), q⟩
/-- a tuple, written or made, as long as it lasts -/
theorem Rp.tupS {x : V} {ds : List D} (h : Rp c H x (.tup ds) ∨ Rp c H x (.tk ds)) : ∃ a vs, x = .ref a ∧ (∀ H', Pers H H' → SqT c.K H' a vs) ∧ RpL c H vs ds := by
  rcases h with h | h
  · cases h with
    | tup h t => exact ⟨_, _, rfl, fun H' p => SqT.of (p _ _ h rfl), t⟩
  · cases h with
    | tk h t => exact ⟨_, _, rfl, fun H' p => h.sq _, t⟩
theorem Rp.lstS {x : V} {ds : List D} (h : Rp c H x (.lst ds)) : ∃ a vs, x = .ref a ∧ FzL c.K H a vs ∧ RpL c H vs ds := by
  cases h with
  | lst h t => exact ⟨_, _, rfl, h, t⟩
theorem seq_cases {d : D} {xs : List D} (h : seqOf d = some xs) : d = .lst xs ∨ d = .tup xs ∨ d = .tk xs := by
  cases d <;> cases h
  · exact .inr (.inl rfl)
  · exact .inr (.inr rfl)
  · exact .inl rfl
/-- the reading of an iterator's source -/
def tFI (c : SC) (b : Bs) (W : WX) (f : Env → R (List D)) : TI := fun σ H R => ∃ ρ, ER c b σ ρ H ∧ Post c b W σ (fun _ H' J xs => Walks c J H' xs) ρ H (f ρ) R
/-- a sequence, walked -/
theorem iter_run (xc : XC c N sc n X) {d : D} {xs : List D} {x : V} {u : Value} {R : It → Hp → Prop} {E : Value → Shared → Prop} (I : Inv X pins σ H s) (rx : L2.RelV x u) (h : Rp c H x d) (e : iter .seq [d] = some xs) (q : ∀ J, Walks c J H xs → R J H) :
    wpAny (model X.prog X.w) X.A (pyIter u) (PIE X pins σ tg R) E s := by
  have hs : (∃ z, d = .str z ∧ xs = z.cps.toList.map fun c => .str ⟨#[c]⟩) ∨ seqOf d = some xs := by
    cases d <;> first
      | (left; cases e; exact ⟨_, rfl, rfl⟩)
      | (right; exact e)
      | cases e
  rcases hs with ⟨z, rfl, rfl⟩ | hs
  · cases h
    obtain ⟨t, rfl⟩ := rx
    have q := q (Its z) walks_str
    cases ha : z.cps.all (· < 128)
    · exact wpAny_pyIter_wide ha (pi_one (tk := s.toks) I _ (turn_str _ z t "str_iterator" (.inr rfl)) ⟨_, Heap.get?_push_size _ rfl, rfl, rfl⟩ q)
    · exact wpAny_pyIter_ascii ha (pi_one (tk := s.toks) I _ (turn_str _ z t "str_ascii_iterator" (.inl rfl)) ⟨_, Heap.get?_push_size _ rfl, rfl, rfl⟩ q)
  · have fin : ∀ b, b ∈ [s.heap.objs.size] → FpOk X pins H b := fun b hb => by
      have e : b = s.heap.objs.size := by simpa using hb
      subst e
      exact I.fpOk (Nat.le_refl _) (I.hok.fresh (Nat.le_refl _))
    have tup : (Rp c H x (.tup xs) ∨ Rp c H x (.tk xs)) → wpAny (model X.prog X.w) X.A (pyIter u) (PIE X pins σ tg R) E s := fun h => by
      obtain ⟨a, vs, rfl, ha, t⟩ := Rp.tupS h
      cases rx
      have q := q (Itt c.K a) (walks_tup ha t)
      have hq : SqT X.K H a vs := by rw [xc.K]; exact ha H (.refl H)
      rw [← xc.K] at q
      obtain ⟨its, rv, p, hz⟩ := I.tuple hq
      refine wpAny_pyIter_tuple (show s.heap.IsTuple a its.toArray from p) ?_
      exact ⟨s.heap.objs.size, [s.heap.objs.size], _, _, H, rfl, I.kept (t' := s.toks) fun b o e => Heap.get?_push_of_some _ e, turn_tuple a _, ⟨_, Heap.get?_push_size _ rfl, rfl, rfl⟩, fin, q⟩
    rcases seq_cases hs with rfl | rfl | rfl
    · obtain ⟨a, vs, rfl, ha, t⟩ := Rp.lstS h
      cases rx
      have q := q (Itl c.K a) (walks_list ha t)
      have hq : SqL X.K H a vs := by rw [xc.K]; exact ha.sq
      rw [← xc.K] at q
      obtain ⟨its, rv, p, hz⟩ := I.list hq
      refine wpAny_pyIter_list p.isList ?_
      exact ⟨s.heap.objs.size, [s.heap.objs.size], _, _, H, rfl, I.kept (t' := s.toks) fun b o e => Heap.get?_push_of_some _ e, turn_list a _, ⟨_, Heap.get?_push_size _ rfl, rfl, rfl⟩, fin, q⟩
    · exact tup (.inl h)
    · exact tup (.inr h)
theorem toDs_len : ∀ {qs : List RV} {ρ ρ' : Env} {ds : List D}, toDs qs ρ = .ok ds ρ' → ds.length = qs.length
  | [], _, _, _, h => by cases h; rfl
  | q :: qs, ρ, ρ', ds, h => by
    obtain ⟨d, ρ1, ds', e1, e2, rfl⟩ := toDs_cons h
    rw [List.length_cons, List.length_cons, toDs_len e2]
/-- the source as data, the items behind it -/
theorem src_imp {f : Env → R (List RV)} {k : Itk} {H0 : Hp} {RR : It → Hp → Prop} (hq : tFI c b W (fun ρ => ((f ρ).bind toDs).bind fun ds ρ1 => R.opt (iter k ds) ρ1) σ H0 RR) :
    tFDs c b W (fun ρ => (f ρ).bind toDs) σ H0 (fun vs H1 => ∃ ds xs ρa ρb rs, RpL c H1 vs ds ∧ f ρa = .ok rs ρb ∧ vs.length = rs.length ∧ iter k ds = some xs ∧ ∀ J, Walks c J H1 xs → RR J H1) := by
  obtain ⟨ρ, r, hq⟩ := hq
  have hq : Post c b W σ (fun _ H' J xs => Walks c J H' xs) ρ H0 (((f ρ).bind toDs).bind fun ds ρ1 => R.opt (iter k ds) ρ1) RR := hq
  refine ⟨ρ, r, ?_⟩
  dsimp only
  cases ed : (f ρ).bind toDs with
  | bad => rw [ed] at hq; exact hq
  | ex e ρ1 => rw [ed] at hq; exact hq
  | ok ds ρ1 =>
    rw [ed] at hq
    intro x H1 r1 s1 v1
    have hq : Post c b W σ (fun _ H' J xs => Walks c J H' xs) ρ H0 (R.opt (iter k ds) ρ1) RR := hq
    obtain ⟨xs, e, p1⟩ := hq.opt
    obtain ⟨rs, ρ0, e1, e2⟩ := R.bind_ok ed
    exact ⟨ds, xs, ρ, ρ0, rs, v1, e1, by rw [v1.length, toDs_len e2], e, fun J w => p1 J H1 r1 s1 w⟩
/-- lists of one, of two -/
def L1 (f : Env → R RV) : Env → R (List RV) := fun ρ => (f ρ).bind fun x ρ1 => R.bind (.ok [] ρ1) fun xs ρ2 => .ok (x :: xs) ρ2
def L2' (f g : Env → R RV) : Env → R (List RV) := fun ρ => (f ρ).bind fun x ρ1 => (L1 g ρ1).bind fun xs ρ2 => .ok (x :: xs) ρ2
theorem L1_len {f : Env → R RV} {ρ ρ' : Env} {rs : List RV} (h : L1 f ρ = .ok rs ρ') : rs.length = 1 := by
  obtain ⟨x, ρ1, _, h⟩ := R.bind_ok h
  cases h
  rfl
theorem L2_len {f g : Env → R RV} {ρ ρ' : Env} {rs : List RV} (h : L2' f g ρ = .ok rs ρ') : rs.length = 2 := by
  obtain ⟨x, ρ1, _, h⟩ := R.bind_ok h
  obtain ⟨ys, ρ2, h1, h⟩ := R.bind_ok h
  cases h
  rw [List.length_cons, L1_len h1]
theorem pi_seq (xc : XC c N sc n X) {e : Expr} {f : Env → R RV} (he : PE X e (tF c b W f)) : L2.PI X tg e (tFI c b W fun ρ => ((L1 f ρ).bind toDs).bind fun ds ρ1 => R.opt (iter .seq ds) ρ1) := by
  have h1 := fe_d he
  refine ⟨fun pins s σ H RR I hq => ?_⟩
  obtain ⟨ρ, r, hq⟩ := hq
  have e1 : ((L1 f ρ).bind toDs).bind (fun ds ρ1 => R.opt (iter .seq ds) ρ1) = ((f ρ).bind toD).bind fun d ρ1 => R.opt (iter .seq [d]) ρ1 := by
    unfold L1
    cases f ρ with
    | bad => rfl
    | ex e ρ => rfl
    | ok q ρ1 =>
      show ((toDs [q] ρ1).bind _) = ((toD q ρ1).bind _)
      unfold toDs
      cases toD q ρ1 with
      | bad => rfl
      | ex e ρ => rfl
      | ok d ρ2 => rfl
  have hq : Post c b W σ (fun _ H' J xs => Walks c J H' xs) ρ H (((L1 f ρ).bind toDs).bind fun ds ρ1 => R.opt (iter .seq ds) ρ1) RR := hq
  rw [e1] at hq
  have h2 : tFD c b W (fun ρ => (f ρ).bind toD) σ H (fun v H1 => ∃ d xs, Rp c H1 v d ∧ iter .seq [d] = some xs ∧ ∀ J, Walks c J H1 xs → RR J H1) :=
    ⟨ρ, r, Post.of_bind (rep1 := fun _ H' x d => Rp c H' x d) (fun _ _ _ _ _ _ z => z) hq fun d ρ1 x H1 r1 s1 v1 p1 => by
      obtain ⟨xs, e, p1⟩ := p1.opt
      exact ⟨d, xs, v1, e, fun J w => p1 J H1 r1 (.refl ..) w⟩⟩
  exact thn (h1.run pins s σ H _ I h2) fun u s1 ⟨x, H1, I1, rx, d, xs, rd, ei, q⟩ => iter_run xc I1 rx rd ei q
theorem Rp.intV {x : V} {i : Int} (h : Rp c H x (.int i)) : x = .int i := by cases h; rfl
theorem RpL.one {vs : List V} {ds : List D} (h : RpL c H vs ds) (l : vs.length = 1) : ∃ v d, vs = [v] ∧ ds = [d] ∧ Rp c H v d := by
  cases h with
  | nil => cases l
  | cons h t => cases t with
    | nil => exact ⟨_, _, rfl, rfl, h⟩
    | cons _ _ => cases l
theorem RpL.two {vs : List V} {ds : List D} (h : RpL c H vs ds) (l : vs.length = 2) : ∃ v d v2 d2, vs = [v, v2] ∧ ds = [d, d2] ∧ Rp c H v d ∧ Rp c H v2 d2 := by
  cases h with
  | nil => cases l
  | cons h t =>
    obtain ⟨v2, d2, rfl, rfl, h2⟩ := t.one (by simpa using l)
    exact ⟨_, _, _, _, rfl, rfl, h, h2⟩
theorem pi_rng1 (xc : XC c N sc n X) {a : Expr} {f : Env → R RV} {p pos : Pos} (hg : sc.names.lookup ("range" : Str) = some .globalImplicit) (hm : c.mg "range" = none) (hs : notStar a = true) (ha : PA X [a] (tFL c b W (L1 f))) :
    L2.PI X tg (.Call (.Name "range" p) [a] [] pos) (tFI c b W fun ρ => ((L1 f ρ).bind toDs).bind fun ds ρ1 => R.opt (iter .range ds) ρ1) := by
  have hg' : Gl X "range" := by show X.env.scope.names.lookup ("range" : Str) = _; rw [xc.sc]; exact hg
  refine ⟨fun pins s σ H RR I hq => ?_⟩
  refine Call_ (ld_blt I hg' (by rw [xc.mg]; exact hm) boot_range (PyProof.Rows.callWith_type1 (thn ((fa_ds ha).run pos pins s σ H _ I (src_imp hq)) fun us s1 ⟨vs, H1, I1, r1, ds, xs, ρa, ρb, rs, rp, ef, hl, ei, q⟩ => ?_) (star_cons hs) rfl))
  obtain ⟨v, d, rfl, rfl, h⟩ := rp.one (hl.trans (L1_len ef))
  cases d with
  | int j =>
    have ei : (if sm62 j = true then some (rngD 0 j.toNat) else none) = some xs := ei
    split at ei
    · rename_i hj
      cases ei
      have hj := of_decide_eq_true hj
      have := h.intV
      subst this
      cases r1 with
      | cons r rr =>
        cases rr
        obtain ⟨t, rfl⟩ := r
        exact call_range_1 (range_it I1 (by omega) (by omega) (by omega) (by omega) (by simpa using q (Itr 0 j.toNat) walks_rng))
    · cases ei
  | _ => cases ei
theorem pi_rng2 (xc : XC c N sc n X) {a a2 : Expr} {f f2 : Env → R RV} {p pos : Pos} (hg : sc.names.lookup ("range" : Str) = some .globalImplicit) (hm : c.mg "range" = none) (hs : notStar a = true) (hs2 : notStar a2 = true) (ha : PA X [a, a2] (tFL c b W (L2' f f2))) :
    L2.PI X tg (.Call (.Name "range" p) [a, a2] [] pos) (tFI c b W fun ρ => ((L2' f f2 ρ).bind toDs).bind fun ds ρ1 => R.opt (iter .range ds) ρ1) := by
  have hg' : Gl X "range" := by show X.env.scope.names.lookup ("range" : Str) = _; rw [xc.sc]; exact hg
  refine ⟨fun pins s σ H RR I hq => ?_⟩
  refine Call_ (ld_blt I hg' (by rw [xc.mg]; exact hm) boot_range (PyProof.Rows.callWith_type1 (thn ((fa_ds ha).run pos pins s σ H _ I (src_imp hq)) fun us s1 ⟨vs, H1, I1, r1, ds, xs, ρa, ρb, rs, rp, ef, hl, ei, q⟩ => ?_) (by rw [star_cons hs]) (by rw [star_cons hs2]; rfl)))
  obtain ⟨v, d, v2, d2, rfl, rfl, h, h2⟩ := rp.two (hl.trans (L2_len ef))
  cases d with
  | int i => cases d2 with
    | int j =>
      have ei : (if sm62 i = true ∧ sm62 j = true then some (rngD i (j - i).toNat) else none) = some xs := ei
      split at ei
      · rename_i hj
        cases ei
        have hi := of_decide_eq_true hj.1
        have hj := of_decide_eq_true hj.2
        have := h.intV
        subst this
        have := h2.intV
        subst this
        cases r1 with
        | cons r rr => cases rr with
          | cons r' rr =>
            cases rr
            obtain ⟨t, rfl⟩ := r
            obtain ⟨t', rfl⟩ := r'
            exact call_range_2 (range_it I1 (by omega) (by omega) (by omega) (by omega) (q (Itr i (j - i).toNat) walks_rng))
      · cases ei
    | _ => cases ei
  | _ => cases ei
theorem pi_enu (xc : XC c N sc n X) {a : Expr} {f : Env → R RV} {elts : List Expr} {kk : Nat} {tpos p pos : Pos} (hg : sc.names.lookup ("enumerate" : Str) = some .globalImplicit) (hm : c.mg "enumerate" = none) (hs : notStar a = true) (ha : PA X [a] (tFL c b W (L1 f))) :
    L2.PI X (.Tuple elts kk tpos) (.Call (.Name "enumerate" p) [a] [] pos) (tFI c b W fun ρ => ((L1 f ρ).bind toDs).bind fun ds ρ1 => R.opt (iter .enum ds) ρ1) := by
  have hg' : Gl X "enumerate" := by show X.env.scope.names.lookup ("enumerate" : Str) = _; rw [xc.sc]; exact hg
  refine ⟨fun pins s σ H RR I hq => ?_⟩
  refine Call_ (ld_blt I hg' (by rw [xc.mg]; exact hm) boot_enumerate (PyProof.Rows.callWith_type1 (thn ((fa_ds ha).run pos pins s σ H _ I (src_imp hq)) fun us s1 ⟨vs, H1, I1, r1, ds, xs, ρa, ρb, rs, rp, ef, hl, ei, q⟩ => ?_) (star_cons hs) rfl))
  obtain ⟨v, d, rfl, rfl, h⟩ := rp.one (hl.trans (L1_len ef))
  have ei : (seqOf d).map (enumD 0) = some xs := ei
  cases es : seqOf d with
  | none => rw [es] at ei; cases ei
  | some ds =>
    rw [es] at ei
    cases ei
    have fin : ∀ b, b ∈ [s1.heap.objs.size + 1, s1.heap.objs.size] → FpOk X pins H1 b := fun b hb => by
      have e' : b = s1.heap.objs.size + 1 ∨ b = s1.heap.objs.size := by simpa using hb
      have hle : s1.heap.objs.size ≤ b := by
        rcases e' with z | z
        · rw [z]; exact Nat.le_add_right _ _
        · rw [z]; exact Nat.le_refl _
      exact I1.fpOk hle (I1.hok.fresh hle)
    have tup : (Rp c H1 v (.tup ds) ∨ Rp c H1 v (.tk ds)) → wpAny (model X.prog X.w) X.A (PySem.call (.type "enumerate") us) (fun v s1 => wpAny (model X.prog X.w) X.A (pyIter v) (PIE X pins σ (.Tuple elts kk tpos) RR) X.xe s1) X.xe s1 := fun h => by
      obtain ⟨a, ws, rfl, ha, t⟩ := Rp.tupS h
      cases r1 with
      | cons r rr =>
        cases rr
        cases r
        have q := q (IteT c.K a) (walks_enumT ha t)
        have hq : SqT X.K H1 a ws := by rw [xc.K]; exact ha H1 (.refl H1)
        rw [← xc.K] at q
        obtain ⟨its, rv, p', hz⟩ := I1.tuple hq
        have hal : s1.heap.IsTuple a its.toArray := p'
        refine PySem.FlX.call_enumerateT (begins_tuple a its.toArray) hal fun h' he hit hsz hk => wpAny_pyIter_enum he ?_
        have I2 : Inv X pins σ H1 { s1 with heap := h' } := I1.kept (t' := s1.toks) hk
        exact ⟨s1.heap.objs.size + 1, [s1.heap.objs.size + 1, s1.heap.objs.size], _, _, H1, rfl, I2, turn_enumT a (s1.heap.objs.size + 1) s1.heap.objs.size, ⟨⟨.none, he⟩, ⟨_, hit, rfl, rfl⟩, Nat.succ_ne_self _⟩, fin, q⟩
    rcases seq_cases es with rfl | rfl | rfl
    · obtain ⟨a, ws, rfl, ha, t⟩ := Rp.lstS h
      cases r1 with
      | cons r rr =>
        cases rr
        cases r
        have q := q (Ite c.K a) (walks_enumL ha t)
        have hq : SqL X.K H1 a ws := by rw [xc.K]; exact ha.sq
        rw [← xc.K] at q
        obtain ⟨its, rv, p', hz⟩ := I1.list hq
        refine call_enumerate_list p'.isList fun h' he hit hsz hk => wpAny_pyIter_enum he ?_
        have I2 : Inv X pins σ H1 { s1 with heap := h' } := I1.kept (t' := s1.toks) hk
        exact ⟨s1.heap.objs.size + 1, [s1.heap.objs.size + 1, s1.heap.objs.size], _, _, H1, rfl, I2, turn_enum a (s1.heap.objs.size + 1) s1.heap.objs.size, ⟨⟨.none, he⟩, hit, Nat.succ_ne_self _⟩, fin, q⟩
    · exact tup (.inl h)
    · exact tup (.inr h)
theorem pi_zp (xc : XC c N sc n X) {a a2 : Expr} {f f2 : Env → R RV} {elts : List Expr} {kk : Nat} {tpos p pos : Pos} (hg : sc.names.lookup ("zip" : Str) = some .globalImplicit) (hm : c.mg "zip" = none) (hs : notStar a = true) (hs2 : notStar a2 = true) (ha : PA X [a, a2] (tFL c b W (L2' f f2))) :
    L2.PI X (.Tuple elts kk tpos) (.Call (.Name "zip" p) [a, a2] [] pos) (tFI c b W fun ρ => ((L2' f f2 ρ).bind toDs).bind fun ds ρ1 => R.opt (iter .zip ds) ρ1) := by
  have hg' : Gl X "zip" := by show X.env.scope.names.lookup ("zip" : Str) = _; rw [xc.sc]; exact hg
  refine ⟨fun pins s σ H RR I hq => ?_⟩
  refine (RZ.pi_zipA (X := X) hg' (by rw [xc.mg]; exact hm) (fa_ds ha) (star_cons hs) (by rw [star_cons hs2]; rfl)).run pins s σ H RR I ?_
  obtain ⟨ρ, r, hh⟩ := src_imp hq
  refine ⟨ρ, r, hh.mono fun vs H1 h1 => ?_⟩
  obtain ⟨ds, xs, ρa, ρb, rs, rp, ef, hl, ei, q⟩ := h1
  obtain ⟨v, d, v2, d2, rfl, rfl, h, h2⟩ := rp.two (hl.trans (L2_len ef))
  have tup : ∀ {ds ds2 : List D}, (Rp c H1 v (.tup ds) ∨ Rp c H1 v (.tk ds)) → (Rp c H1 v2 (.tup ds2) ∨ Rp c H1 v2 (.tk ds2)) → zipD ds ds2 = xs → ∃ a b xs ys, [v, v2] = [V.ref a, V.ref b] ∧ ((SqL X.K H1 a xs ∧ SqL X.K H1 b ys ∧ RR (Itz X.K a b) H1) ∨ (SqT X.K H1 a xs ∧ SqT X.K H1 b ys ∧ RR (RZ.ItzT X.K a b) H1)) := fun {ds ds2} h h2 e => by
    obtain ⟨a, ws, rfl, ha, t⟩ := Rp.tupS h
    obtain ⟨a2, ws2, rfl, ha2, t2⟩ := Rp.tupS h2
    refine ⟨a, a2, ws, ws2, rfl, .inr ?_⟩
    rw [xc.K]
    exact ⟨ha H1 (.refl H1), ha2 H1 (.refl H1), q _ (by rw [← e]; exact walks_zipT ha t ha2 t2)⟩
  cases d with
  | lst ds => cases d2 with
    | lst ds2 =>
      cases ei
      obtain ⟨a, ws, rfl, ha, t⟩ := Rp.lstS h
      obtain ⟨a2, ws2, rfl, ha2, t2⟩ := Rp.lstS h2
      refine ⟨a, a2, ws, ws2, rfl, .inl ?_⟩
      rw [xc.K]
      exact ⟨ha.sq, ha2.sq, q _ (walks_zipL ha t ha2 t2)⟩
    | _ => cases ei
  | tup ds => cases d2 with
    | tup ds2 => cases ei; exact tup (.inl h) (.inl h2) rfl
    | tk ds2 => cases ei; exact tup (.inl h) (.inr h2) rfl
    | _ => cases ei
  | tk ds => cases d2 with
    | tup ds2 => cases ei; exact tup (.inr h) (.inl h2) rfl
    | tk ds2 => cases ei; exact tup (.inr h) (.inr h2) rfl
    | _ => cases ei
  | _ => cases ei
end
end Fl
set_option Elab.async false
set_option linter.all false
set_option maxRecDepth 100000
set_option maxHeartbeats 4000000
/-! Layer F, part 15: names bound; comprehensions. -/
namespace Fl
open PySem PySem.Spec PyProof.Rows L2 NdefX LamX
section
variable {X : Cx} {pins : List (Addr × Obj)} {s : Shared} {σ : L2.St} {ρ ρ1 ρ' : Env} {H H1 : Hp} {c : SC} {b : Bs} {W : WX} {N : List Str} {sc : Scope} {n m : Nat}
theorem setS_ok {i : Nat} {v : SV} (h : setS i v ρ = some ρ') : i < ρ.length ∧ ρ' = ρ.set i (some v) ∧ ∀ o, ρ[i]? ≠ some (some (.m false o)) := by
  unfold setS at h
  split at h
  · cases h
  · rename_i x hx e
    cases h
    exact ⟨(List.getElem?_eq_some_iff.mp e).1, rfl, fun o z => hx o (by rw [z] at e; exact (Option.some.inj e).symm)⟩
  · cases h
/-- a name stored -/
theorem ER.set (r : ER c b σ ρ H) {i : Nat} {x : V} {sv : SV} (h : Sv c H x sv) (e : setS i sv ρ = some ρ') (fr : ∀ w o a, sv = .m w o → x = .ref a → w = true ∧ b.H0 a = none ∧ ∀ (j : Nat) w' o', j ≠ i → ρ[j]? = some (some (.m w' o')) → σ[j]? ≠ some (some (.ref a))) : ER c b (σ.set i (some x)) ρ' H := by
  obtain ⟨hi, rfl, nf⟩ := setS_ok e
  have hiσ : i < σ.length := by rw [r.len]; exact hi
  have at_ : ∀ (j : Nat) (sv' : SV), (ρ.set i (some sv))[j]? = some (some sv') → (j = i ∧ sv' = sv) ∨ (j ≠ i ∧ ρ[j]? = some (some sv')) := fun j sv' h => by
    by_cases hj : i = j
    · subst hj
      rw [List.getElem?_set_self hi] at h
      cases h
      exact .inl ⟨rfl, rfl⟩
    · rw [List.getElem?_set_ne hj] at h
      exact .inr ⟨fun z => hj z.symm, h⟩
  have sat : ∀ (j : Nat), j ≠ i → (σ.set i (some x))[j]? = σ[j]? := fun j hj => List.getElem?_set_ne fun z => hj z.symm
  have sai : (σ.set i (some x))[i]? = some (some x) := List.getElem?_set_self hiσ
  refine ⟨by rw [List.length_set, List.length_set]; exact r.len, fun j sv' h' => ?_, fun j k w w' o o' a h1 h2 s1 s2 => ?_, fun j o a h' s1 => ?_, fun j o a h' s1 => ?_, fun j a hp => ?_, r.fr, r.frT, r.tabs⟩
  · rcases at_ j sv' h' with ⟨rfl, rfl⟩ | ⟨hj, h'⟩
    · exact ⟨x, sai, h⟩
    · rw [sat j hj]
      exact r.slot j sv' h'
  · rcases at_ j _ h1 with ⟨rfl, e1⟩ | ⟨hj, h1⟩
    · rw [sai] at s1
      rcases at_ k _ h2 with ⟨rfl, _⟩ | ⟨hk, h2⟩
      · rfl
      · rw [sat k hk] at s2
        cases s1
        exact absurd s2 ((fr w o a e1.symm rfl).2.2 k w' o' hk h2)
    · rw [sat j hj] at s1
      rcases at_ k _ h2 with ⟨rfl, e2⟩ | ⟨hk, h2⟩
      · rw [sai] at s2
        cases s2
        exact absurd s1 ((fr w' o' a e2.symm rfl).2.2 j w o hj (by assumption))
      · rw [sat k hk] at s2
        exact r.apart j k w w' o o' a h1 h2 s1 s2
  · rcases at_ j _ h' with ⟨rfl, e1⟩ | ⟨hj, h'⟩
    · rw [sai] at s1
      cases s1
      exact (fr true o a e1.symm rfl).2.1
    · rw [sat j hj] at s1
      exact r.own j o a h' s1
  · rcases at_ j _ h' with ⟨rfl, e1⟩ | ⟨hj, h'⟩
    · rw [sai] at s1
      cases s1
      cases (fr false o a e1.symm rfl).1
    · rw [sat j hj] at s1
      exact r.par j o a h' s1
  · obtain ⟨⟨o, e1⟩, e2⟩ := r.parB j a hp
    have hj : j ≠ i := fun z => by subst z; exact nf o e1
    exact ⟨⟨o, by rw [List.getElem?_set_ne fun z => hj z.symm]; exact e1⟩, by rw [sat j hj]; exact e2⟩
theorem ER.setD (r : ER c b σ ρ H) {i : Nat} {x : V} {d : D} (h : Rp c H x d) (e : setS i (.d d) ρ = some ρ') : ER c b (σ.set i (some x)) ρ' H := r.set (sv := .d d) h e fun _ _ _ z => nomatch z
/-- data bound to names, one after another -/
structure Bd (tg : List Nat) (σ : L2.St) (ρ : Env) (σ1 : L2.St) (ρ1 : Env) : Prop where
  len : σ1.length = σ.length
  so : ∀ i, i ∉ tg → σ1[i]? = σ[i]?
  ro : ∀ i, i ∉ tg → ρ1[i]? = ρ[i]?
  rt : ∀ i w o, i ∈ tg → ρ1[i]? ≠ some (some (SV.m w o))
def gN : List Nat → TGs
  | [] => gNil
  | i :: is => gCons (gName i) (gN is)
def gOf (K : PySem.W.Frag) (tg : List Nat) (many : Bool) : TG := match many with
  | false => (match tg with
    | [i] => gName i
    | _ => fun _ _ _ _ => False)
  | true => gTup K tg.length (gN tg)
theorem setAll_ok : ∀ {tg : List Nat} {ds : List D} {vs : List V} {σ : L2.St} {ρ ρ' : Env} {Q : L2.St → Hp → Prop}, ER c b σ ρ H → RpL c H vs ds → setAll tg ds ρ = some ρ' → (∀ σ1, ER c b σ1 ρ' H → Bd tg σ ρ σ1 ρ' → Q σ1 H) → vs.length = tg.length ∧ gN tg vs σ H Q
  | [], [], _, σ, ρ, ρ', Q, r, .nil, e, q => by
    cases e
    exact ⟨rfl, rfl, q σ r ⟨rfl, fun _ _ => rfl, fun _ _ => rfl, fun i w o h => by cases h⟩⟩
  | [], _ :: _, _, _, _, _, _, _, _, e, _ => by cases e
  | _ :: _, [], _, _, _, _, _, _, _, e, _ => by cases e
  | i :: is, d :: ds, _, σ, ρ, ρ', Q, r, .cons (v := v) (vs := vs) h t, e, q => by
    obtain ⟨ρ1, e1, e2⟩ := bind1 e
    have r1 := r.setD h e1
    obtain ⟨hi, e1', _⟩ := setS_ok e1
    have z := setAll_ok (Q := Q) r1 t e2 fun σ1 r2 bd => q σ1 r2 ⟨by rw [bd.len, List.length_set], fun j hj => ?_, fun j hj => ?_, fun j w o hj => ?_⟩
    · exact ⟨by rw [List.length_cons, List.length_cons, z.1], v, vs, rfl, z.2⟩
    · rw [bd.so j fun z => hj (List.mem_cons_of_mem _ z), List.getElem?_set_ne fun z => hj (by rw [z]; exact List.mem_cons_self)]
    · rw [bd.ro j fun z => hj (List.mem_cons_of_mem _ z), e1', List.getElem?_set_ne fun z => hj (by rw [z]; exact List.mem_cons_self)]
    · by_cases hm : j ∈ is
      · exact bd.rt j w o hm
      · rw [bd.ro j hm]
        have : j = i := (List.mem_cons.mp hj).resolve_right hm
        rw [this, e1', List.getElem?_set_self hi]
        exact fun z => nomatch z
theorem bindT_ok {tg : List Nat} {many : Bool} {d : D} {x : V} {Q : L2.St → Hp → Prop} (r : ER c b σ ρ H) (h : Rp c H x d) (e : bindT tg many d ρ = some ρ') (q : ∀ σ1, ER c b σ1 ρ' H → Bd tg σ ρ σ1 ρ' → Q σ1 H) : gOf c.K tg many x σ H Q := by
  cases many with
  | false =>
    have e : setAll tg [d] ρ = some ρ' := e
    obtain ⟨hl, g⟩ := setAll_ok (Q := Q) r (.cons h .nil) e q
    match tg, hl, g with
    | [i], _, g =>
      obtain ⟨v, rr, e1, g⟩ := g
      cases e1
      obtain ⟨_, g⟩ := g
      exact g
    | [], hl, _ => cases hl
    | _ :: _ :: _, hl, _ => cases hl
  | true =>
    have tup : ∀ {ds : List D}, (Rp c H x (.tup ds) ∨ Rp c H x (.tk ds)) → setAll tg ds ρ = some ρ' → gOf c.K tg true x σ H Q := fun {ds} h e => by
      obtain ⟨a, vs, rfl, ha, t⟩ := Rp.tupS h
      obtain ⟨hl, g⟩ := setAll_ok (Q := Q) r t e q
      exact ⟨a, vs, rfl, ha H (.refl H), hl, g⟩
    cases d with
    | tup ds => exact tup (.inl h) e
    | tk ds => exact tup (.inr h) e
    | _ => cases e
/-! ### the block -/
theorem wipeE_len : ∀ {vs : List Nat}, (wipeE ρ vs).length = ρ.length
  | [] => rfl
  | v :: vs => by unfold wipeE; rw [List.length_set, wipeE_len]
theorem wipeE_other {i : Nat} : ∀ {vs : List Nat}, i ∉ vs → (wipeE ρ vs)[i]? = ρ[i]?
  | [], _ => rfl
  | v :: vs, h => by
    unfold wipeE
    rw [List.getElem?_set_ne fun z => h (by rw [z]; exact List.mem_cons_self), wipeE_other fun z => h (List.mem_cons_of_mem _ z)]
theorem wipeE_in {i : Nat} {sv : SV} : ∀ {vs : List Nat}, i ∈ vs → (wipeE ρ vs)[i]? ≠ some (some sv)
  | [], h => by cases h
  | v :: vs, h => by
    unfold wipeE
    by_cases hv : v = i
    · subst hv
      by_cases hl : v < (wipeE ρ vs).length
      · rw [List.getElem?_set_self hl]; exact fun z => nomatch z
      · rw [List.getElem?_eq_none (by rw [List.length_set]; omega)]; exact fun z => nomatch z
    · rw [List.getElem?_set_ne hv]
      exact wipeE_in ((List.mem_cons.mp h).resolve_left fun z => hv z.symm)
theorem wipe_other {i : Nat} : ∀ {vs : List Nat}, i ∉ vs → (wipe σ vs)[i]? = σ[i]?
  | [], _ => rfl
  | v :: vs, h => by
    unfold wipe
    rw [List.getElem?_set_ne fun z => h (by rw [z]; exact List.mem_cons_self), wipe_other fun z => h (List.mem_cons_of_mem _ z)]
theorem wipe_in {i : Nat} {x : V} : ∀ {vs : List Nat}, i ∈ vs → (wipe σ vs)[i]? ≠ some (some x)
  | [], h => by cases h
  | v :: vs, h => by
    unfold wipe
    by_cases hv : v = i
    · subst hv
      by_cases hl : v < (wipe σ vs).length
      · rw [List.getElem?_set_self hl]; exact fun z => nomatch z
      · rw [List.getElem?_eq_none (by rw [List.length_set]; omega)]; exact fun z => nomatch z
    · rw [List.getElem?_set_ne hv]
      exact wipe_in ((List.mem_cons.mp h).resolve_left fun z => hv z.symm)
theorem wipe_same {σ2 : L2.St} {vs : List Nat} (hl : σ2.length = σ.length) (h : ∀ i, i ∉ vs → σ2[i]? = σ[i]?) : wipe σ2 vs = wipe σ vs := by
  refine List.ext_getElem? fun i => ?_
  by_cases hi : i ∈ vs
  · by_cases hb : i < σ.length
    · have e1 : i < (wipe σ2 vs).length := by rw [wipe_length, hl]; exact hb
      have e2 : i < (wipe σ vs).length := by rw [wipe_length]; exact hb
      rw [List.getElem?_eq_getElem e1, List.getElem?_eq_getElem e2]
      cases q1 : (wipe σ2 vs)[i] with
      | some x => exact absurd (by rw [List.getElem?_eq_getElem e1, q1]) (wipe_in (σ := σ2) (x := x) hi)
      | none =>
        cases q2 : (wipe σ vs)[i] with
        | some x => exact absurd (by rw [List.getElem?_eq_getElem e2, q2]) (wipe_in (σ := σ) (x := x) hi)
        | none => rfl
    · rw [List.getElem?_eq_none (by rw [wipe_length, hl]; omega), List.getElem?_eq_none (by rw [wipe_length]; omega)]
  · rw [wipe_other hi, wipe_other hi, h i hi]
theorem ownOk_at {own : List Nat} (h : ownOk own ρ = true) {i : Nat} (hi : i ∈ own) : i < ρ.length ∧ ∀ w o, ρ[i]? ≠ some (some (SV.m w o)) := by
  have z := List.all_eq_true.mp h i hi
  split at z
  · cases z
  · rename_i x hx e
    exact ⟨(List.getElem?_eq_some_iff.mp e).1, fun w o q => hx w o (by rw [q] at e; exact (Option.some.inj e).symm)⟩
  · cases z
/-- the names of the block forgotten -/
theorem ER.wipe {own : List Nat} (r : ER c b σ ρ H) (h : ∀ i w o, i ∈ own → ρ[i]? ≠ some (some (SV.m w o))) : ER c b (L2.wipe σ own) (wipeE ρ own) H := by
  have at_ : ∀ (j : Nat) (sv : SV), (wipeE ρ own)[j]? = some (some sv) → j ∉ own ∧ ρ[j]? = some (some sv) := fun j sv hj => by
    by_cases hi : j ∈ own
    · exact absurd hj (wipeE_in hi)
    · rw [wipeE_other hi] at hj
      exact ⟨hi, hj⟩
  refine ⟨by rw [wipe_length, wipeE_len]; exact r.len, fun j sv hj => ?_, fun j k w w' o o' a h1 h2 s1 s2 => ?_, fun j o a h1 s1 => ?_, fun j o a h1 s1 => ?_, fun j a hp => ?_, r.fr, r.frT, r.tabs⟩
  · obtain ⟨hi, hj⟩ := at_ j sv hj
    rw [wipe_other hi]
    exact r.slot j sv hj
  · obtain ⟨i1, h1⟩ := at_ _ _ h1
    obtain ⟨i2, h2⟩ := at_ _ _ h2
    rw [wipe_other i1] at s1
    rw [wipe_other i2] at s2
    exact r.apart j k w w' o o' a h1 h2 s1 s2
  · obtain ⟨i1, h1⟩ := at_ _ _ h1
    rw [wipe_other i1] at s1
    exact r.own j o a h1 s1
  · obtain ⟨i1, h1⟩ := at_ _ _ h1
    rw [wipe_other i1] at s1
    exact r.par j o a h1 s1
  · obtain ⟨⟨o, e1⟩, e2⟩ := r.parB j a hp
    have hi : j ∉ own := fun z => h j _ _ z e1
    exact ⟨⟨o, by rw [wipeE_other hi]; exact e1⟩, by rw [wipe_other hi]; exact e2⟩
/-- an object that no slot holds is written -/
theorem ER.free (r : ER c b σ ρ H) {a : Addr} {u u' : HO} (e : H a = some u) (p : per u = false) (nt : ∀ ps, u ≠ .tbl ps) (nm : ¬ MutAt σ ρ a) (h0 : b.H0 a = none) : ER c b σ ρ (upd H a u') := by
  have P : Pers H (upd H a u') := pers_upd e p
  refine ⟨r.len, fun i sv h => ?_, r.apart, r.own, r.par, r.parB, fun a' o e' n q => ?_, fun a' ps e' => ?_, fun q hq => tabN_keep (r.tabs q hq) fun b' o' e2 z => ?_⟩
  · obtain ⟨x, e1, q⟩ := r.slot i sv h
    refine ⟨x, e1, ?_⟩
    cases sv with
    | d v => exact Rp.pers P q
    | m w o =>
      obtain ⟨a', ea, q⟩ := q
      exact ⟨a', ea, q.stay (upd_ne fun z => nm ⟨i, w, o, h, by rw [e1, ea, z]⟩) P⟩
  · rw [upd_ne fun z => by rw [z, h0] at e'; cases e']
    exact r.fr a' o e' n q
  · obtain ⟨more, h⟩ := r.frT a' ps e'
    exact ⟨more, by rw [upd_ne fun z => by rw [z, h0] at e'; cases e']; exact h⟩
  · rw [upd_ne fun z' => ?_]
    · exact e2
    · rw [z', e] at e2
      cases e2
      rcases z with ⟨ps, z⟩ | z
      · exact nt ps z
      · rw [p] at z; cases z
/-- at a turn: σ0, ρ0, H1: where the block began -/
structure Cm (c : SC) (b : Bs) (σ : L2.St) (ρ0 : Env) (H1 : Hp) (own : List Nat) (ρ : Env) (H : Hp) : Prop where
  er : ER c b (wipe σ own) (wipeE ρ own) H
  fr : ∀ a o, H1 a = some o → ¬ MutAt σ ρ0 a → (∀ ps, o ≠ .tbl ps) → H a = some o
  sh : ∀ (i : Nat) w o, i ∉ own → ρ[i]? = some (some (SV.m w o)) → ∃ o', ρ0[i]? = some (some (SV.m w o'))
  tr : ∀ a, H a = none → H1 a = none
  len : ρ.length = ρ0.length
theorem backE_len {ρ0 : Env} : ∀ {vs : List Nat}, (backE ρ0 vs ρ).length = ρ.length
  | [] => rfl
  | v :: vs => by unfold backE; rw [List.length_set, backE_len]
theorem backE_other {ρ0 : Env} {i : Nat} : ∀ {vs : List Nat}, i ∉ vs → (backE ρ0 vs ρ)[i]? = ρ[i]?
  | [], _ => rfl
  | v :: vs, h => by
    unfold backE
    rw [List.getElem?_set_ne fun z => h (by rw [z]; exact List.mem_cons_self), backE_other fun z => h (List.mem_cons_of_mem _ z)]
theorem backE_in {ρ0 : Env} (hl : ρ.length = ρ0.length) {i : Nat} : ∀ {vs : List Nat}, i ∈ vs → i < ρ0.length → (backE ρ0 vs ρ)[i]? = ρ0[i]?
  | [], h, _ => by cases h
  | v :: vs, h, hb => by
    unfold backE
    by_cases hv : v = i
    · subst hv
      rw [List.getElem?_set_self (by rw [backE_len, hl]; exact hb), List.getElem?_eq_getElem hb]
      rfl
    · rw [List.getElem?_set_ne hv]
      exact backE_in hl ((List.mem_cons.mp h).resolve_left fun z => hv z.symm) hb
/-- behind the block -/
theorem Cm.out {ρ0 : Env} {own : List Nat} (k : Cm c b σ ρ0 H1 own ρ H) (r0 : ER c b σ ρ0 H1) (ok : ownOk own ρ0 = true) : ER c b σ (backE ρ0 own ρ) H ∧ Stp σ ρ0 H1 (backE ρ0 own ρ) H := by
  have P : Pers H1 H := fun a o h hp => k.fr a o h (r0.notMut h hp) (per_tbl hp)
  have at_ : ∀ (j : Nat) (sv : SV), (backE ρ0 own ρ)[j]? = some (some sv) → (j ∈ own ∧ ρ0[j]? = some (some sv)) ∨ (j ∉ own ∧ ρ[j]? = some (some sv)) := fun j sv hj => by
    by_cases hi : j ∈ own
    · rw [backE_in k.len hi (ownOk_at ok hi).1] at hj
      exact .inl ⟨hi, hj⟩
    · rw [backE_other hi] at hj
      exact .inr ⟨hi, hj⟩
  have atM : ∀ (j : Nat) w o, (backE ρ0 own ρ)[j]? = some (some (SV.m w o)) → j ∉ own ∧ ρ[j]? = some (some (SV.m w o)) := fun j w o hj => by
    rcases at_ j _ hj with ⟨hi, h⟩ | h
    · exact absurd h ((ownOk_at ok hi).2 w o)
    · exact h
  have wp : ∀ (j : Nat) (sv : SV), j ∉ own → ρ[j]? = some (some sv) → (wipeE ρ own)[j]? = some (some sv) := fun j sv hj h => by rw [wipeE_other hj]; exact h
  refine ⟨⟨by rw [backE_len, k.len]; exact r0.len, fun j sv hj => ?_, fun j l w w' o o' a h1 h2 s1 s2 => ?_, fun j o a h1 s1 => ?_, fun j o a h1 s1 => ?_, fun j a hp => ?_, k.er.fr, k.er.frT, k.er.tabs⟩, ⟨k.fr, fun j w o hj => ?_, k.tr⟩⟩
  · rcases at_ j sv hj with ⟨hi, h⟩ | ⟨hi, h⟩
    · obtain ⟨x, e1, q⟩ := r0.slot j sv h
      refine ⟨x, e1, ?_⟩
      cases sv with
      | d v => exact Rp.pers P q
      | m w o => exact absurd h ((ownOk_at ok hi).2 w o)
    · have z := k.er.slot j sv (wp j sv hi h)
      rw [wipe_other hi] at z
      exact z
  · obtain ⟨i1, h1⟩ := atM _ _ _ h1
    obtain ⟨i2, h2⟩ := atM _ _ _ h2
    exact k.er.apart j l w w' o o' a (wp _ _ i1 h1) (wp _ _ i2 h2) (by rw [wipe_other i1]; exact s1) (by rw [wipe_other i2]; exact s2)
  · obtain ⟨i1, h1⟩ := atM _ _ _ h1
    exact k.er.own j o a (wp _ _ i1 h1) (by rw [wipe_other i1]; exact s1)
  · obtain ⟨i1, h1⟩ := atM _ _ _ h1
    exact k.er.par j o a (wp _ _ i1 h1) (by rw [wipe_other i1]; exact s1)
  · obtain ⟨⟨o, e1⟩, e2⟩ := k.er.parB j a hp
    have hi : j ∉ own := fun z => wipeE_in z e1
    rw [wipeE_other hi] at e1
    rw [wipe_other hi] at e2
    exact ⟨⟨o, by rw [backE_other hi]; exact e1⟩, e2⟩
  · obtain ⟨hi, h⟩ := atM j w o hj
    exact k.sh j w o hi h
/-- a step within a turn: from where the names are bound -/
theorem Cm.step {ρ0 ρ2 : Env} {own tg : List Nat} {σ1 : L2.St} {H2 H3 : Hp} (k : Cm c b σ ρ0 H1 own ρ H) (grow : ∀ a o, H a = some o → H2 a = some o) (sub : ∀ i ∈ tg, i ∈ own) (bd : Bd tg (wipe σ own) (wipeE ρ own) σ1 ρ1) (r3 : ER c b σ1 ρ2 H3) (st : Stp σ1 ρ1 H2 ρ2 H3) (nown : ∀ i w o, i ∈ own → ρ2[i]? ≠ some (some (SV.m w o))) (hl : σ1.length = σ.length) :
    Cm c b σ ρ0 H1 own ρ2 H3 ∧ ∀ a, MutAt σ1 ρ2 a → MutAt σ ρ0 a := by
  have so : ∀ i, i ∉ own → σ1[i]? = σ[i]? := fun i hi => by rw [bd.so i fun z => hi (sub i z), wipe_other hi]
  have ro : ∀ i, i ∉ own → ρ1[i]? = ρ[i]? := fun i hi => by rw [bd.ro i fun z => hi (sub i z), wipeE_other hi]
  have nom : ∀ (i : Nat) w o, ρ1[i]? = some (some (SV.m w o)) → i ∉ own := fun i w o h hi => by
    by_cases ht : i ∈ tg
    · exact bd.rt i w o ht h
    · rw [bd.ro i ht] at h
      exact wipeE_in hi h
  have mu1 : ∀ a, MutAt σ1 ρ1 a → MutAt σ ρ0 a := fun a ⟨i, w, o, e1, e2⟩ => by
    have hi := nom i w o e1
    rw [ro i hi] at e1
    rw [so i hi] at e2
    obtain ⟨o', e3⟩ := k.sh i w o hi e1
    exact ⟨i, w, o', e3, e2⟩
  have w1 : wipe σ1 own = wipe σ own := wipe_same hl so
  refine ⟨⟨by rw [← w1]; exact r3.wipe nown, fun a o h nm nt => ?_, fun i w o hi h => ?_, fun a h => ?_, ?_⟩, fun a h => mu1 a (st.mut h)⟩
  · exact st.fr a o (grow a o (k.fr a o h nm nt)) (fun z => nm (mu1 a z)) nt
  · obtain ⟨o', e⟩ := st.sh i w o h
    rw [ro i hi] at e
    exact k.sh i w o' hi e
  · have h2 := st.tr a h
    cases q : H a with
    | none => exact k.tr a q
    | some o => rw [grow a o q] at h2; cases h2
  · rw [← r3.len, hl, ← k.len, ← wipeE_len (ρ := ρ) (vs := own), ← k.er.len, wipe_length]
end
end Fl
set_option Elab.async false
set_option linter.all false
set_option maxRecDepth 100000
set_option maxHeartbeats 4000000
/-! Layer F, part 16: list comprehensions. -/
namespace Fl
open PySem PySem.Spec PyProof.Rows L2 NdefX LamX
abbrev W0 : WX := fun _ _ _ _ => False
section
variable {X : Cx} {pins : List (Addr × Obj)} {s : Shared} {σ : L2.St} {c : SC} {b : Bs} {W : WX} {N : List Str} {sc : Scope} {n m : Nat}
theorem compRun_cons {own tg : List Nat} {many : Bool} {c e : Den} {x : D} {xs : List D} {ρ ρe : Env} {acc ys : List D} (h : compRun own tg many c e (x :: xs) ρ acc = .ok ys ρe) : ∃ ρ1, bindT tg many x (wipeE ρ own) = some ρ1 ∧
    ((∃ ρ2 d ρ3, c.t ρ1 = .ok true ρ2 ∧ (e.v ρ2).bind toD = .ok d ρ3 ∧ acc.length < SL ∧ compRun own tg many c e xs ρ3 (acc ++ [d]) = .ok ys ρe) ∨ ∃ ρ2, c.t ρ1 = .ok false ρ2 ∧ compRun own tg many c e xs ρ2 acc = .ok ys ρe) := by
  unfold compRun at h
  split at h
  · cases h
  · rename_i ρ1 e1
    refine ⟨ρ1, e1, ?_⟩
    split at h
    · rename_i ρ2 e2
      split at h
      · rename_i d ρ3 e3
        split at h
        · rename_i hz
          exact .inl ⟨ρ2, d, ρ3, e2, e3, hz, h⟩
        · cases h
      · cases h
    · rename_i ρ2 e2
      exact .inr ⟨ρ2, e2, h⟩
    · cases h
theorem comp_loop {own tg : List Nat} {many : Bool} {dc de : Den} {J : It} {ρ0 ρe : Env} {H1 : Hp} {xs ys : List D} {D : Addr} {Qd : Hp → Prop} (r0 : ER c b σ ρ0 H1) (ok : ownOk own ρ0 = true) (sub : ∀ i ∈ tg, i ∈ own) (hD : H1 D = none) (wk : Walks c J H1 xs) (hr : compRun own tg many dc de xs ρ0 [] = .ok ys ρe)
    (fin : ∀ H ws, Cm c b σ ρ0 H1 own ρe H → H D = some (.lst ws) → RpL c H ws ys → Qd H) :
    ∃ Wi : Nat → Nat → Hp → Prop, (∃ m, Wi 0 m (upd H1 D (.lst []))) ∧ ∀ i m H, Wi i m H → (J.stop i H ∧ Qd H) ∨ (J.go i H ∧ ∃ Nx : Hp → Prop, (∀ H', Nx H' → ∃ m', m' < m ∧ Wi (i + 1) m' H') ∧ ∀ x H', J.yld i H x H' →
      gOf c.K tg many x (wipe σ own) H' fun σ2 H2 => wipe σ2 own = wipe σ own ∧ tFB c b W0 dc.t σ2 H2 fun bb H3 => if bb = true then tFD c b W0 (fun ρ => (de.v ρ).bind toD) σ2 H3 fun y H4 => ∃ acc, H4 D = some (.lst acc) ∧ acc.length < sizeLine ∧ Nx (upd H4 D (.lst (acc ++ [y]))) else Nx H3) := by
  have nmD : ¬ MutAt σ ρ0 D := r0.freshMut hD
  have hD0 : b.H0 D = none := r0.fresh0 hD
  refine ⟨fun i m H => m = xs.length - i ∧ i ≤ xs.length ∧ ∃ ρ acc ws, Cm c b σ ρ0 H1 own ρ H ∧ H D = some (.lst ws) ∧ RpL c H ws acc ∧ compRun own tg many dc de (xs.drop i) ρ acc = .ok ys ρe, ⟨xs.length, rfl, Nat.zero_le _, ρ0, [], [], ⟨?_, ?_, fun i w o _ h => ⟨o, h⟩, ?_, rfl⟩, upd_same, .nil, hr⟩, ?_⟩
  · exact (r0.wipe fun i w o hi => (ownOk_at ok hi).2 w o).grow fun a o h => by rw [upd_ne (ne_of_none h hD)]; exact h
  · exact fun a o h _ _ => by rw [upd_ne (ne_of_none h hD)]; exact h
  · exact fun a h => by
      by_cases z : a = D
      · rw [z]; exact hD
      · rw [upd_ne z] at h; exact h
  rintro i m H ⟨rfl, hi, ρ, acc, ws, k, hd, ra, hc⟩
  have P : Pers H1 H := fun a o h hp => k.fr a o h (r0.notMut h hp) (per_tbl hp)
  obtain ⟨w1, w2⟩ := wk i H P
  by_cases hlt : i < xs.length
  · obtain ⟨go, yl⟩ := w1 hlt
    refine .inr ⟨go, fun H' => ∃ ρ acc ws, Cm c b σ ρ0 H1 own ρ H' ∧ H' D = some (.lst ws) ∧ RpL c H' ws acc ∧ compRun own tg many dc de (xs.drop (i + 1)) ρ acc = .ok ys ρe, fun H' q => ⟨xs.length - (i + 1), by omega, rfl, hlt, q⟩, fun x H' hy => ?_⟩
    obtain ⟨grow, d, ed, rd⟩ := yl x H' hy
    have edr : xs.drop i = d :: xs.drop (i + 1) := by
      rw [List.drop_eq_getElem_cons hlt]
      rw [List.getElem?_eq_getElem hlt] at ed
      rw [Option.some.inj ed]
    rw [edr] at hc
    obtain ⟨ρ1, eb, hc⟩ := compRun_cons hc
    have r2 := k.er.grow grow
    refine bindT_ok r2 rd eb fun σ1 r3 bd => ?_
    have hl : σ1.length = σ.length := by rw [bd.len, wipe_length]
    have so : ∀ i, i ∉ own → σ1[i]? = σ[i]? := fun i hi => by rw [bd.so i fun z => hi (sub i z), wipe_other hi]
    refine ⟨wipe_same hl so, ρ1, r3, ?_⟩
    have nown : ∀ {ρ2 : Env} {H3 : Hp}, Stp σ1 ρ1 H' ρ2 H3 → ∀ i w o, i ∈ own → ρ2[i]? ≠ some (some (SV.m w o)) := fun {ρ2 H3} st i w o hi h => by
      obtain ⟨o', e⟩ := st.sh i w o h
      by_cases ht : i ∈ tg
      · exact bd.rt i w o' ht e
      · rw [bd.ro i ht] at e
        exact wipeE_in hi e
    have hdk : ∀ {ρ2 : Env} {H3 : Hp}, Stp σ1 ρ1 H' ρ2 H3 → H3 D = some (.lst ws) := fun {ρ2 H3} st => by
      refine st.fr D _ (grow D _ hd) (fun ⟨i, w, o, e1, e2⟩ => ?_) fun ps z => by cases z
      have hi : i ∉ own := fun hi => nown (.refl ..) i w o hi e1
      rw [bd.ro i fun z => hi (sub i z), wipeE_other hi] at e1
      rw [so i hi] at e2
      obtain ⟨o', e3⟩ := k.sh i w o hi e1
      exact nmD ⟨i, w, o', e3, e2⟩
    rcases hc with ⟨ρ2, dd, ρ3, e1, e2, hz, hc⟩ | ⟨ρ2, e1, hc⟩
    · rw [e1]
      intro bb H3 r4 s4 hb
      cases hb
      rw [if_pos rfl]
      refine ⟨ρ2, r4, ?_⟩
      dsimp only
      rw [e2]
      intro y H4 r5 s5 hy
      have s6 := s4.trans s5
      obtain ⟨k5, mu5⟩ := k.step grow sub bd r5 s6 (nown s6) hl
      have hd4 := hdk s6
      have ra4 : RpL c H4 ws acc := (ra.pers (.of grow)).pers (s6.pers r3)
      refine ⟨ws, hd4, by rw [ra.length, ← sl16]; exact hz, ρ3, acc ++ [dd], ws ++ [y], ⟨?_, ?_, k5.sh, ?_, k5.len⟩, upd_same, ?_, hc⟩
      · refine k5.er.free hd4 rfl (fun _ z => nomatch z) (fun ⟨i, w, o, e1, e2⟩ => ?_) hD0
        have hi : i ∉ own := fun hi => wipeE_in hi e1
        rw [wipeE_other hi] at e1
        rw [wipe_other hi] at e2
        obtain ⟨o', e3⟩ := k5.sh i w o hi e1
        exact nmD ⟨i, w, o', e3, e2⟩
      · exact fun a o h nm nt => by
          rw [upd_ne (ne_of_none h hD)]
          exact k5.fr a o h nm nt
      · exact fun a h => by
          by_cases z : a = D
          · rw [z]; exact hD
          · rw [upd_ne z] at h; exact k5.tr a h
      · have P4 : Pers H4 (upd H4 D (.lst (ws ++ [y]))) := pers_upd hd4 rfl
        exact (ra4.pers P4).append (.cons (hy.pers P4) .nil)
    · rw [e1]
      intro bb H3 r4 s4 hb
      cases hb
      rw [if_neg Bool.false_ne_true]
      obtain ⟨k5, mu5⟩ := k.step grow sub bd r4 s4 (nown s4) hl
      exact ⟨ρ2, acc, ws, k5, hdk s4, (ra.pers (.of grow)).pers (s4.pers r3), hc⟩
  · have ei : i = xs.length := by omega
    subst ei
    refine .inl ⟨w2 rfl, ?_⟩
    rw [List.drop_length] at hc
    cases hc
    exact fin H ws k hd ra
theorem folded_ok {e : Expr} {env : PySem.Env} (h : notSetD e = true) : ∀ x, foldedSetIterable e env x = pure x := by
  intro x
  cases e <;> first | rfl | cases h
theorem comp_imp {own tg : List Nat} {many : Bool} {dc de : Den} {F : Env → R (List D)} {H : Hp} {Q : VK} (sub : ∀ i ∈ tg, i ∈ own) (hq : tF c b W (fun ρ => (F ρ).bind fun xs ρ2 => compF own tg many dc de xs ρ2) σ H Q) :
    tLc (tFI c b W F) (gOf c.K tg many) (tFB c b W0 dc.t) (tFD c b W0 fun ρ => (de.v ρ).bind toD) own σ H Q := by
  obtain ⟨ρs, r, hq⟩ := hq
  have hq : Post c b W σ (Rv c σ) ρs H ((F ρs).bind fun xs ρ2 => compF own tg many dc de xs ρ2) Q := hq
  refine ⟨ρs, r, ?_⟩
  cases eF : F ρs with
  | bad => rw [eF] at hq; exact hq
  | ex e ρ1 => rw [eF] at hq; exact hq
  | ok xs ρ0 =>
    rw [eF] at hq
    intro J H1 r0 st wk D hD
    have hq : Post c b W σ (Rv c σ) ρs H (compF own tg many dc de xs ρ0) Q := hq
    unfold compF at hq
    split at hq
    · rename_i ok
      split at hq
      · rename_i ys ρe er
        refine comp_loop (Qd := fun H => Q (.ref D) H) r0 ok sub hD wk er fun H2 ws k hd ra => ?_
        obtain ⟨r2, s2⟩ := k.out r0 ok
        exact hq (.ref D) H2 r2 (st.trans s2) ⟨D, rfl, ⟨ws, hd, ra⟩, st.tr D hD⟩
      · exact hq.elim
    · exact hq.elim
theorem fd_comp (xc : XC c N sc n X) {elt tgE iterE : Expr} {ifs : List Expr} {scope : Scope} {own : List (Str × Nat)} {pos : Pos} {F : Env → R (List D)} {tg : List Nat} {many : Bool} {dc de : Den} (sub : ∀ i ∈ tg, i ∈ own.map (·.2)) (hi : L2.PI X tgE iterE (tFI c b W F)) (ok : blkC N sc scope own = true)
    (hg : ∀ (s : Shared) (H : Hp) (C : Addr) (cl : List (Str × Addr)) (fp : List Addr), PG (X.blk s H scope (compEnvC scope cl C X.env) fp) tgE (gOf c.K tg many)) (ht : ∀ (s : Shared) (H : Hp) (C : Addr) (cl : List (Str × Addr)) (fp : List Addr), PTs (X.blk s H scope (compEnvC scope cl C X.env) fp) ifs (tFB c b W0 dc.t))
    (he : ∀ (s : Shared) (H : Hp) (C : Addr) (cl : List (Str × Addr)) (fp : List Addr), PE (X.blk s H scope (compEnvC scope cl C X.env) fp) elt (tF c b W0 de.v)) (hs : notSetD iterE = true) :
    FD c b W X (.ListComp elt [⟨tgE, iterE, ifs, 0⟩] scope pos) (vDen fun ρ => (F ρ).bind fun xs ρ2 => compF (own.map (·.2)) tg many dc de xs ρ2) := by
  have okB : BlkOk X.N X.env.scope scope own := by rw [xc.nm, xc.sc]; exact blkOk_by ok
  exact fd_plain xc (PE.imp (pe_lc xc.calm (by rw [xc.nm]; exact xc.nd) hi okB hg ht (fun s H C cl fp => fe_d (he s H C cl fp)) (folded_ok hs)) fun σ H Q hq => comp_imp sub hq) fun _ => rfl
end
end Fl
set_option Elab.async false
set_option linter.all false
set_option maxRecDepth 100000
set_option maxHeartbeats 4000000
/-! Layer F, part 17: statements. -/
namespace Fl
open PySem PySem.Spec PyProof.Rows L2 NdefX LamX
/-! ### o[i] = v -/
section
variable {X : Cx} {pins : List (Addr × Obj)} {s : Shared} {σ : L2.St} {H : Hp} {c : SC} {b : Bs} {W : WX} {N : List Str} {sc : Scope} {n m : Nat}
theorem put_rel {κ : Type} [DecidableEq κ] {k : κ} {v : V} {d : D} (rv : Rp c H v d) : ∀ {kv : List (κ × V)} {ks : List (κ × D)}, kv.map (·.1) = ks.map (·.1) → RpL c H (kv.map (·.2)) (ks.map (·.2)) →
    (putK kv k v).map (·.1) = (dPut ks k d).map (·.1) ∧ RpL c H ((putK kv k v).map (·.2)) ((dPut ks k d).map (·.2)) := by
  intro kv ks e r
  have any : (kv.any fun p => decide (p.1 = k)) = ks.any fun p => decide (p.1 = k) := by
    have h1 : (kv.any fun p => decide (p.1 = k)) = (kv.map (·.1)).any fun x => decide (x = k) := by rw [List.any_map]; rfl
    have h2 : (ks.any fun p => decide (p.1 = k)) = (ks.map (·.1)).any fun x => decide (x = k) := by rw [List.any_map]; rfl
    rw [h1, h2, e]
  unfold putK dPut
  rw [any]
  split
  · have go : ∀ {kv : List (κ × V)} {ks : List (κ × D)}, kv.map (·.1) = ks.map (·.1) → RpL c H (kv.map (·.2)) (ks.map (·.2)) →
        (kv.map fun p => if p.1 = k then (p.1, v) else p).map (·.1) = (ks.map fun p => if p.1 = k then (p.1, d) else p).map (·.1) ∧ RpL c H ((kv.map fun p => if p.1 = k then (p.1, v) else p).map (·.2)) ((ks.map fun p => if p.1 = k then (p.1, d) else p).map (·.2)) := by
      intro kv
      induction kv with
      | nil =>
        intro ks e r
        cases ks with
        | nil => exact ⟨rfl, .nil⟩
        | cons _ _ => cases e
      | cons p kv ih =>
        intro ks e r
        cases ks with
        | nil => cases e
        | cons q ks =>
          injection e with e1 e2
          cases r with
          | cons r1 r2 =>
            obtain ⟨g1, g2⟩ := ih e2 r2
            have e1 : p.1 = q.1 := e1
            simp only [List.map_cons]
            rw [g1]
            by_cases hk : q.1 = k
            · have hp : p.1 = k := e1.trans hk
              rw [if_pos hk, if_pos hp]
              exact ⟨by rw [e1], .cons rv g2⟩
            · have hp : ¬ p.1 = k := fun z => hk (e1.symm.trans z)
              rw [if_neg hk, if_neg hp]
              exact ⟨by rw [e1], .cons r1 g2⟩
    exact go e r
  · refine ⟨by rw [List.map_append, List.map_append, e]; rfl, ?_⟩
    rw [List.map_append, List.map_append]
    exact r.append (.cons rv .nil)
theorem dk_dt (I : Inv X pins σ H s) {a : Addr} (e : H a = some (.dK [])) : Inv X pins σ (upd H a (.dT [])) s := by
  obtain ⟨_, hd, vs, rel, o, es, ep, ho, hx, hdat, _, prs, hnd⟩ := I.hok a _ e
  cases rel
  have hes : es.toList = [] := by
    generalize es.toList = l at prs
    cases prs
    rfl
  exact I.write (x := a) (e := a) (h' := s.heap) (t' := s.toks) (by rw [e]; exact True.intro) (.inl rfl) (fun b q hb z => z) ⟨o, ho⟩ ⟨Nat.zero_le _, hd, [], .nil, o, es, ep, ho, hx, hdat, hes, List.nodup_nil⟩
def rPut (c : SC) : TSet := fun o i v H Q => ∃ (a : Addr) (mo mo' : MO) (x d : D), o = .ref a ∧ Mo c H a mo ∧ Rp c H i x ∧ Rp c H v d ∧ putM mo x d = some mo' ∧ ∀ u, Mo c (upd H a u) a mo' → Q (upd H a u)
theorem putM_k_eq (ks : List (Key × D)) (x d : D) : putM (.k ks) x d = (match x.key with
    | some k => if ks.length < SL then some (MO.k (dPut ks k d)) else none
    | none => (match ks, x.keyT with
      | [], some k => some (MO.t [(k, d)])
      | _, _ => none)) := by
  cases x <;> rfl
theorem putM_k {ks : List (Key × D)} {x d : D} {mo' : MO} (h : putM (.k ks) x d = some mo') : (∃ k, x.key = some k ∧ ks.length < SL ∧ mo' = .k (dPut ks k d)) ∨ (ks = [] ∧ ∃ k, x.keyT = some k ∧ mo' = .t [(k, d)]) := by
  rw [putM_k_eq] at h
  split at h
  · rename_i k ek
    split at h
    · rename_i hz; cases h; exact .inl ⟨k, ek, hz, rfl⟩
    · cases h
  · split at h
    · rename_i ek
      cases h
      exact .inr ⟨rfl, _, ek, rfl⟩
    · cases h
theorem set_put (xc : XC c N sc n X) : PSet X (rPut c) := by
  intro pins s σ H o i v ov iv u Q I ro ri rv h
  obtain ⟨a, mo, mo', x, d, rfl, hm, hx, hd, e, q⟩ := h
  have hu : X.A.units + 1 < cLine := by have := xc.units; omega
  cases mo with
  | l xs =>
    obtain ⟨vs, hv, t⟩ := hm
    cases x with
    | int k =>
      have e : (ixN xs.length k).map (fun j => MO.l (xs.set j d)) = some mo' := e
      cases ej : ixN xs.length k with
      | none => rw [ej] at e; cases e
      | some j =>
        rw [ej] at e
        cases e
        have := hx.intV
        subst this
        refine set_list pins s σ H _ _ v ov iv u Q I ro ri rv ⟨a, vs, k, j, rfl, rfl, hv, by rw [t.length]; exact ej, q _ ⟨_, upd_same, ?_⟩⟩
        have P : Pers H (upd H a (.lst (vs.set j v))) := pers_upd hv rfl
        exact RpL.set (hd.pers P) j (t.pers P)
    | _ => cases e
  | k ks =>
    obtain ⟨kv, hv, e1, t⟩ := hm
    rcases putM_k e with ⟨k, ek, hz, rfl⟩ | ⟨rfl, k, ek, rfl⟩
    · rw [key_ok ek] at hx
      have := Vw.key (.r hx)
      subst this
      have hl : kv.length = ks.length := by
        have := congrArg List.length e1
        simpa using this
      refine set_dict hu pins s σ H _ _ v ov iv u Q I ro ri rv ⟨a, _, rfl, DPut.k hv (by rw [hl, ← sl16]; exact hz), q _ ⟨_, upd_same, ?_⟩⟩
      have P : Pers H (upd H a (.dK (putK kv k v))) := pers_upd hv rfl
      obtain ⟨g1, g2⟩ := put_rel (k := k) hd e1 t
      exact ⟨g1, g2.pers P⟩
    · have e0 : kv = [] := by
        cases kv with
        | nil => rfl
        | cons _ _ => cases e1
      subst e0
      rw [keyT_ok ek] at hx
      obtain ⟨b', vs, ex, hb, hk⟩ := (Vw.r hx).tup
      rw [RpL.keysV hk] at hb
      subst ex
      have I2 := dk_dt I hv
      have hb2 : upd H a (.dT []) b' = some (.tup (k.map kV)) := by rw [upd_ne fun z => by rw [z, hv] at hb; cases hb]; exact hb
      refine set_dict hu pins s σ _ _ _ v ov iv u Q I2 ro ri rv ⟨a, _, rfl, DPut.t (kvs := []) upd_same hb2 (by rw [sizeLine_eq]; show 0 < _; omega), ?_⟩
      rw [upd_upd]
      refine q _ ⟨_, upd_same, rfl, ?_⟩
      have P : Pers H (upd H a (.dT (putK [] k v))) := pers_upd hv rfl
      exact .cons (hd.pers P) .nil
  | t ks =>
    obtain ⟨kv, hv, e1, t⟩ := hm
    have e : (match x.keyT with
      | some k => if ks.length < SL then some (MO.t (dPut ks k d)) else none
      | none => none) = some mo' := by
      unfold putM at e
      exact e
    split at e
    · rename_i k ek
      split at e
      · rename_i hz
        cases e
        rw [keyT_ok ek] at hx
        obtain ⟨b', vs, ex, hb, hk⟩ := (Vw.r hx).tup
        rw [RpL.keysV hk] at hb
        subst ex
        have hl : kv.length = ks.length := by
          have := congrArg List.length e1
          simpa using this
        refine set_dict hu pins s σ H _ _ v ov iv u Q I ro ri rv ⟨a, _, rfl, DPut.t hv hb (by rw [hl, ← sl16]; exact hz), q _ ⟨_, upd_same, ?_⟩⟩
        have P : Pers H (upd H a (.dT (putK kv k v))) := pers_upd hv rfl
        obtain ⟨g1, g2⟩ := put_rel (k := k) hd e1 t
        exact ⟨g1, g2.pers P⟩
      · cases e
    · cases e
  | i C fs => cases x <;> cases e
/-! ### ends -/
def RvE (c : SC) (H0 H : Hp) (x : V) : RV → Prop
  | .d v => Rp c H x v
  | .n o => ∃ a, x = .ref a ∧ Mo c H a o ∧ H0 a = none
  | .sl _ => False
def OPost (c : SC) (b : Bs) (W : WX) (Hb : Hp) (D : Ends) : O → Prop
  | .nx ρ => ∀ σ H, ER c b σ ρ H → Pers Hb H → D.nx σ H
  | .rt r ρ => ∀ σ x H, ER c b σ ρ H → Pers Hb H → RvE c b.H0 H x r → D.rt x H
  | .bk ρ => ∀ σ H, ER c b σ ρ H → Pers Hb H → D.bk σ H
  | .ct ρ => ∀ σ H, ER c b σ ρ H → Pers Hb H → D.ct σ H
  | .ex e ρ => ∀ σ cls d H, ER c b σ ρ H → Pers Hb H → Ex c H cls d e → W cls d σ H
  | .bad => False
def tO (c : SC) (b : Bs) (W : WX) (f : Env → O) : TS := fun D σ H => ∃ ρ, ER c b σ ρ H ∧ OPost c b W H D (f ρ)
theorem OPost.back {Hb Hb' : Hp} {D : Ends} {o : O} (p : Pers Hb Hb') (h : OPost c b W Hb D o) : OPost c b W Hb' D o := by
  cases o with
  | nx ρ => exact fun σ H r q => h σ H r (p.trans q)
  | rt r ρ => exact fun σ x H r q => h σ x H r (p.trans q)
  | bk ρ => exact fun σ H r q => h σ H r (p.trans q)
  | ct ρ => exact fun σ H r q => h σ H r (p.trans q)
  | ex e ρ => exact fun σ cls d H r q => h σ cls d H r (p.trans q)
  | bad => exact h
/-- an expression within a statement -/
theorem o_bind {α β : Type} {rep : Hp → Hp → β → α → Prop} {o : R α} {g : α → Env → O} {D : Ends} {ρ : Env} {G : β → Hp → Prop} (r : ER c b σ ρ H) (h : OPost c b W H D (o.toO g))
    (k : ∀ a ρ1 x H1, ER c b σ ρ1 H1 → Stp σ ρ H ρ1 H1 → rep H H1 x a → OPost c b W H D (g a ρ1) → G x H1) : Post c b W σ rep ρ H o G := by
  cases o with
  | ok a ρ1 => exact fun x H1 r1 s1 v1 => k a ρ1 x H1 r1 s1 v1 h
  | ex e ρ1 => exact fun cls d H1 r1 s1 p1 => h σ cls d H1 r1 (s1.pers r) p1
  | bad => exact h
theorem O_of {o : Option Env} {D : Ends} {Hb : Hp} (h : OPost c b W Hb D (O.of o)) : ∃ ρ, o = some ρ ∧ ∀ σ H, ER c b σ ρ H → Pers Hb H → D.nx σ H := by
  cases o with
  | none => exact h.elim
  | some ρ => exact ⟨ρ, rfl, h⟩
/-! ### blocks -/
theorem fs_nil : PSs X [] (tO c b W fun ρ => .nx ρ) := PSs.imp pss_nil fun D σ H ⟨ρ, r, hq⟩ => hq σ H r (.refl H)
theorem fs_cons {st : Stmt} {rest : List Stmt} {f g : Env → O} (h1 : PS X st (tO c b W f)) (h2 : PSs X rest (tO c b W g)) : PSs X (st :: rest) (tO c b W fun ρ => match f ρ with
    | .nx ρ1 => g ρ1
    | o => o) := PSs.imp (pss_cons h1 h2) fun D σ H ⟨ρ, r, hq⟩ => by
  refine ⟨ρ, r, ?_⟩
  dsimp only at hq
  cases ef : f ρ with
  | nx ρ1 => rw [ef] at hq; exact fun σ1 H1 r1 p1 => ⟨ρ1, r1, hq.back p1⟩
  | rt v ρ1 => rw [ef] at hq; exact hq
  | bk ρ1 => rw [ef] at hq; exact hq
  | ct ρ1 => rw [ef] at hq; exact hq
  | ex e ρ1 => rw [ef] at hq; exact hq
  | bad => rw [ef] at hq; exact hq
theorem fs_never {st : Stmt} : PS X st (tO c b W fun _ => .bad) := PS.imp ps_never fun D σ H ⟨ρ, r, hq⟩ => hq
theorem fs_pass {pos : Pos} : PS X (.Pass pos) (tO c b W fun ρ => .nx ρ) := PS.imp ps_pass fun D σ H ⟨ρ, r, hq⟩ => hq σ H r (.refl H)
theorem fs_brk {pos : Pos} : PS X (.Break pos) (tO c b W fun ρ => .bk ρ) := PS.imp ps_break fun D σ H ⟨ρ, r, hq⟩ => hq σ H r (.refl H)
theorem fs_cnt {pos : Pos} : PS X (.Continue pos) (tO c b W fun ρ => .ct ρ) := PS.imp ps_continue fun D σ H ⟨ρ, r, hq⟩ => hq σ H r (.refl H)
theorem fs_retN {pos : Pos} : PS X (.Return none pos) (tO c b W fun ρ => .rt (.d .non) ρ) := PS.imp ps_retN fun D σ H ⟨ρ, r, hq⟩ => hq σ .non H r (.refl H) .non
theorem ret_ok {r : RV} {ρ0 ρ1 : Env} {H0 : Hp} {x : V} {D : Ends} (r0 : ER c b σ ρ0 H0) (r1 : ER c b σ ρ1 H) (st : Stp σ ρ0 H0 ρ1 H) (v : Rv c σ H0 H x r) (hq : OPost c b W H0 D (retF r ρ1)) : D.rt x H := by
  have P := st.pers r0
  cases r with
  | d d => exact hq σ x H r1 P v
  | n o => obtain ⟨a, e, m, n⟩ := v; exact hq σ x H r1 P ⟨a, e, m, r0.fresh0 n⟩
  | sl i =>
    unfold retF at hq
    dsimp only at hq
    split at hq
    · rename_i o ei
      obtain ⟨x', e1, a, ea, m⟩ := r1.slot i _ ei
      have v : σ[i]? = some (some x) := v
      rw [v] at e1
      cases e1
      exact hq σ x H r1 P ⟨a, ea, m, r1.own i o a ei (by rw [v, ea])⟩
    · rename_i d ei
      obtain ⟨x', e1, q⟩ := r1.slot i _ ei
      have v : σ[i]? = some (some x) := v
      rw [v] at e1
      cases e1
      exact hq σ x H r1 P q
    · exact hq.elim
theorem fs_ret {e : Expr} {d : Den} {pos : Pos} (he : FD c b W X e d) : PS X (.Return (some e) pos) (tO c b W fun ρ => (d.v ρ).toO fun r ρ1 => retF r ρ1) := PS.imp (ps_ret he.v) fun D σ H ⟨ρ, r, hq⟩ =>
  ⟨ρ, r, o_bind (rep := Rv c σ) r hq fun q ρ1 x H1 r1 s1 v1 p1 => ret_ok r r1 s1 v1 p1⟩
theorem fs_exp {e : Expr} {d : Den} {pos : Pos} (he : FD c b W X e d) (hs : swapsWith e none pos.line X.env = pure false) : PS X (.Expr e pos) (tO c b W fun ρ => (d.v ρ).toO fun _ ρ1 => .nx ρ1) := PS.imp (ps_expr he.v hs) fun D σ H ⟨ρ, r, hq⟩ =>
  ⟨ρ, r, o_bind (rep := Rv c σ) r hq fun q ρ1 x H1 r1 s1 v1 p1 => p1 σ H1 r1 (s1.pers r)⟩
theorem fs_doc {x : Str} {j : Nat} {p pos : Pos} : PS X (.Expr (.Constant (.str x) j p) pos) (tO c b W fun ρ => .nx ρ) := PS.imp ps_doc fun D σ H ⟨ρ, r, hq⟩ => hq σ H r (.refl H)
theorem fs_ite {e : Expr} {as bs : List Stmt} {d : Den} {f g : Env → O} {pos : Pos} (he : FD c b W X e d) (ha : PSs X as (tO c b W f)) (hb : PSs X bs (tO c b W g)) : PS X (.If e as bs pos) (tO c b W fun ρ => (d.t ρ).toO fun x ρ1 => match x with
    | true => f ρ1
    | false => g ρ1) := PS.imp (ps_if he.t ha hb) fun D σ H ⟨ρ, r, hq⟩ => by
  refine ⟨ρ, r, o_bind (rep := fun _ _ (x a : Bool) => x = a) r hq fun q ρ1 x H1 r1 s1 v1 p1 => ?_⟩
  subst v1
  cases x with
  | true => rw [if_pos rfl]; exact ⟨ρ1, r1, p1.back (s1.pers r)⟩
  | false => rw [if_neg Bool.false_ne_true]; exact ⟨ρ1, r1, p1.back (s1.pers r)⟩
/-! ### loops -/
theorem forRun_cons {tg : List Nat} {many : Bool} {f : Env → O} {D : Ends} {Hb : Hp} {x : Fl.D} {xs : List Fl.D} {ρ : Env} (h : OPost c b W Hb D (forRun tg many f (x :: xs) ρ)) : ∃ ρ1, bindT tg many x ρ = some ρ1 ∧
    OPost c b W Hb { D with nx := fun σ H => ∃ ρ2, ER c b σ ρ2 H ∧ Pers Hb H ∧ OPost c b W Hb D (forRun tg many f xs ρ2), ct := fun σ H => ∃ ρ2, ER c b σ ρ2 H ∧ Pers Hb H ∧ OPost c b W Hb D (forRun tg many f xs ρ2), bk := D.nx } (f ρ1) := by
  unfold forRun at h
  split at h
  · exact h.elim
  · rename_i ρ1 e1
    refine ⟨ρ1, e1, ?_⟩
    cases ef : f ρ1 with
    | nx ρ2 => rw [ef] at h; exact fun σ H r p => ⟨ρ2, r, p, h⟩
    | ct ρ2 => rw [ef] at h; exact fun σ H r p => ⟨ρ2, r, p, h⟩
    | bk ρ2 => rw [ef] at h; exact h
    | rt v ρ2 => rw [ef] at h; exact h
    | ex e ρ2 => rw [ef] at h; exact h
    | bad => rw [ef] at h; exact h
theorem fs_for (xc : XC c N sc n X) {tgE iterE : Expr} {body : List Stmt} {tg : List Nat} {many : Bool} {F : Env → R (List Fl.D)} {f : Env → O} {pos : Pos} (hi : L2.PI X tgE iterE (tFI c b W F)) (hg : PG X tgE (gOf c.K tg many)) (hb : PSs X body (tO c b W f)) (hs : notSetD iterE = true) :
    PS X (.For tgE iterE body [] pos) (tO c b W fun ρ => (F ρ).toO fun xs ρ1 => forRun tg many f xs ρ1) := PS.imp (ps_for xc.hp xc.calm hi hg hb (folded_ok hs)) fun D σ H ⟨ρ, r, hq⟩ => by
  refine ⟨ρ, r, o_bind (rep := fun _ H' J xs => Walks c J H' xs) r hq fun xs ρ1 J H1 r1 s1 wk p1 => ?_⟩
  have P1 := s1.pers r
  refine ⟨fun i m σ H2 => m = xs.length - i ∧ i ≤ xs.length ∧ ∃ ρ2, ER c b σ ρ2 H2 ∧ Pers H1 H2 ∧ OPost c b W H1 D (forRun tg many f (xs.drop i) ρ2), ⟨xs.length, rfl, Nat.zero_le _, ρ1, r1, .refl H1, p1.back P1⟩, ?_⟩
  rintro i m σ2 H2 ⟨rfl, hi, ρ2, r2, P2, p2⟩
  obtain ⟨w1, w2⟩ := wk i H2 P2
  by_cases hlt : i < xs.length
  · obtain ⟨go, yl⟩ := w1 hlt
    refine .inr ⟨go, fun σ H => ∃ ρ2, ER c b σ ρ2 H ∧ Pers H1 H ∧ OPost c b W H1 D (forRun tg many f (xs.drop (i + 1)) ρ2), fun σ' H' ⟨ρ3, r3, q3, p3⟩ => ⟨xs.length - (i + 1), by omega, rfl, hlt, ρ3, r3, q3, p3⟩, fun x H' hy => ?_⟩
    obtain ⟨grow, d, ed, rd⟩ := yl x H' hy
    have edr : xs.drop i = d :: xs.drop (i + 1) := by
      rw [List.drop_eq_getElem_cons hlt]
      rw [List.getElem?_eq_getElem hlt] at ed
      rw [Option.some.inj ed]
    rw [edr] at p2
    obtain ⟨ρ3, eb, p3⟩ := forRun_cons p2
    refine bindT_ok (r2.grow grow) rd eb fun σ3 r3 bd => ⟨ρ3, r3, ?_⟩
    exact p3.back (P2.trans (.of grow))
  · have ei : i = xs.length := by omega
    subst ei
    refine .inl ⟨w2 rfl, ?_⟩
    rw [List.drop_length] at p2
    exact p2 σ2 H2 r2 P2
theorem fs_whl (xc : XC c N sc n X) {e : Expr} {body : List Stmt} {d : Den} {f : Env → O} {turns : Nat} {pos : Pos} (he : FD c b W X e d) (hb : PSs X body (tO c b W f)) : PS X (.While e body [] pos) (tO c b W fun ρ => whlRun d.t f turns ρ) :=
    PS.imp (ps_while xc.hp he.t hb) fun D σ H ⟨ρ, r, hq⟩ => by
  refine ⟨fun m σ H1 => ∃ ρ, ER c b σ ρ H1 ∧ Pers H H1 ∧ OPost c b W H D (whlRun d.t f m ρ), ⟨turns, ρ, r, .refl H, hq⟩, ?_⟩
  rintro m σ1 H1 ⟨ρ1, r1, P1, p1⟩
  cases m with
  | zero => exact p1.elim
  | succ m =>
    refine ⟨ρ1, r1, ?_⟩
    unfold whlRun at p1
    cases et : d.t ρ1 with
    | bad => rw [et] at p1; exact p1.elim
    | ex e ρ2 => rw [et] at p1; exact fun cls dd H2 r2 s2 q2 => p1 σ1 cls dd H2 r2 (P1.trans (s2.pers r1)) q2
    | ok k ρ2 =>
      rw [et] at p1
      intro k' H2 r2 s2 hk
      subst hk
      have P2 := P1.trans (s2.pers r1)
      cases k' with
      | false => rw [if_neg Bool.false_ne_true]; exact p1 σ1 H2 r2 P2
      | true =>
        rw [if_pos rfl]
        dsimp only at p1
        refine ⟨fun σ H3 => ∃ ρ, ER c b σ ρ H3 ∧ Pers H H3 ∧ OPost c b W H D (whlRun d.t f m ρ), fun σ' H' q => ⟨m, Nat.lt_succ_self _, q⟩, ρ2, r2, OPost.back P2 ?_⟩
        cases ef : f ρ2 with
        | nx ρ3 => rw [ef] at p1; exact fun σ H r p => ⟨ρ3, r, p, p1⟩
        | ct ρ3 => rw [ef] at p1; exact fun σ H r p => ⟨ρ3, r, p, p1⟩
        | bk ρ3 => rw [ef] at p1; exact p1
        | rt v ρ3 => rw [ef] at p1; exact p1
        | ex e ρ3 => rw [ef] at p1; exact p1
        | bad => rw [ef] at p1; exact p1
end
end Fl
set_option Elab.async false
set_option linter.all false
set_option maxRecDepth 100000
set_option maxHeartbeats 4000000
/-! Layer F, part 18: assignments. -/
namespace Fl
open PySem PySem.Spec PyProof.Rows L2 NdefX LamX
def notComp : Expr → Bool
  | .ListComp _ _ _ _ => false
  | .SetComp _ _ _ _ => false
  | .DictComp _ _ _ _ _ => false
  | _ => true
theorem sw_no {e : Expr} {t : Option Expr} {l : Nat} {env : PySem.Env} (h : notComp e = true) : swapsWith e t l env = pure false := by
  cases e <;> first | rfl | cases h
def isNameE : Expr → Bool
  | .Name _ _ => true
  | _ => false
theorem sw_tgt {e t : Expr} {l : Nat} {env : PySem.Env} (h : isNameE t = false) : swapsWith e (some t) l env = pure false := by
  cases t <;> first | (cases e <;> rfl) | cases h
theorem sole_tgt {e t : Expr} {l : Nat} {env : PySem.Env} (h : isNameE t = false) : swapsWithSole [t] e l env = pure false := by
  cases t <;> first | (cases h; done) | (cases e <;> rfl)
def isTupE : Expr → Bool
  | .Tuple _ _ _ => true
  | .List _ _ => true
  | _ => false
theorem st_val {t e : Expr} {env : PySem.Env} (h : isTupE e = false) : swappedStores [t] e env = pure none := by
  unfold swappedStores
  cases e <;> first
    | (cases h; done)
    | (cases t <;> rfl)
theorem st_tgt {t e : Expr} {env : PySem.Env} (h : isTupE t = false) : swappedStores [t] e env = pure none := by
  unfold swappedStores
  cases t <;> first | (cases h; done) | (cases e <;> rfl)
section
variable {X : Cx} {pins : List (Addr × Obj)} {s : Shared} {σ : L2.St} {H : Hp} {c : SC} {b : Bs} {W : WX} {N : List Str} {sc : Scope} {n m : Nat} {P : PI} {call : Call}
/-- a name's new value -/
theorem sv_ok {r : RV} {sv : SV} {ρ0 ρ1 : Env} {H0 : Hp} {x : V} (r0 : ER c b σ ρ0 H0) (st : Stp σ ρ0 H0 ρ1 H) (v : Rv c σ H0 H x r) (e : svOf r = some sv) : Sv c H x sv ∧ ∀ (i : Nat) w o a, sv = .m w o → x = .ref a → w = true ∧ b.H0 a = none ∧ ∀ (j : Nat) w' o', j ≠ i → ρ1[j]? = some (some (.m w' o')) → σ[j]? ≠ some (some (.ref a)) := by
  cases r with
  | d d => cases e; exact ⟨v, fun _ _ _ _ z => nomatch z⟩
  | n o =>
    cases e
    obtain ⟨a, ea, m, n⟩ := v
    refine ⟨⟨a, ea, m⟩, fun i w o a' hz hx => ?_⟩
    cases hz
    rw [hx] at ea
    cases ea
    exact ⟨rfl, r0.fresh0 n, fun j w' o' _ e1 e2 => r0.freshMut n (st.mut ⟨j, w', o', e1, e2⟩)⟩
  | sl i => cases e
theorem asg_imp {i : Nat} {f : Env → R RV} {D : Ends} (hq : tO c b W (fun ρ => (f ρ).toO fun r ρ1 => O.of ((svOf r).bind fun v => setS i v ρ1)) D σ H) : tAsg (tF c b W f) (gName i) D σ H := by
  obtain ⟨ρ, r, hq⟩ := hq
  refine ⟨ρ, r, o_bind (rep := Rv c σ) r hq fun q ρ1 x H1 r1 s1 v1 p1 => ?_⟩
  obtain ⟨ρ2, e, p1⟩ := O_of p1
  obtain ⟨sv, e1, e2⟩ := bind1 e
  obtain ⟨h1, h2⟩ := sv_ok (b := b) r s1 v1 e1
  exact p1 _ H1 (r1.set h1 e2 fun w o a => h2 i w o a) (s1.pers r)
theorem fs_asg (xc : XC c N sc n X) (hfn : ∀ x, X.fn x = true) {i : Nat} {x : Str} {e : Expr} {d : Den} {pos pos' : Pos} (hi : N[i]? = some x) (hl : Loc sc x) (he : FD c b W X e d) (hs : swapsWith e (some (.Name x pos')) pos.line X.env = pure false) :
    PS X (.Assign [.Name x pos'] e pos) (tO c b W fun ρ => (d.v ρ).toO fun r ρ1 => O.of ((svOf r).bind fun v => setS i v ρ1)) :=
  PS.imp (ps_set (i := i) (by rw [xc.nm]; exact xc.nd) (by rw [xc.nm]; exact hi) (by rw [xc.sc]; exact hl) he.v hs (.inl (hfn x))) fun D σ H hq => asg_imp hq
/-- name = [..] on one line -/
theorem fs_asgC (xc : XC c N sc n X) {i : Nat} {y : Str} {elt tgE iterE : Expr} {ifs : List Expr} {scope : Scope} {own : List (Str × Nat)} {pos spos py : Pos} {F : Env → R (List Fl.D)} {tg : List Nat} {many : Bool} {dc de : Den} (hy : N[i]? = some y) (hyl : sc.names.lookup y = some .local)
    (hsw : swapsWith (.ListComp elt [⟨tgE, iterE, ifs, 0⟩] scope pos) (some (.Name y py)) spos.line X.env = pure true) (sub : ∀ i ∈ tg, i ∈ own.map (·.2)) (hi : L2.PI X tgE iterE (tFI c b W F)) (ok : blkC N sc scope own = true)
    (hg : ∀ (s : Shared) (H : Hp) (C : Addr) (cl : List (Str × Addr)) (fp : List Addr), PG (X.blk s H scope (compEnvC scope cl C X.env) fp) tgE (gOf c.K tg many)) (ht : ∀ (s : Shared) (H : Hp) (C : Addr) (cl : List (Str × Addr)) (fp : List Addr), PTs (X.blk s H scope (compEnvC scope cl C X.env) fp) ifs (tFB c b W0 dc.t))
    (he : ∀ (s : Shared) (H : Hp) (C : Addr) (cl : List (Str × Addr)) (fp : List Addr), PE (X.blk s H scope (compEnvC scope cl C X.env) fp) elt (tF c b W0 de.v)) (hs : notSetD iterE = true) :
    PS X (.Assign [.Name y py] (.ListComp elt [⟨tgE, iterE, ifs, 0⟩] scope pos) spos) (tO c b W fun ρ => ((F ρ).bind fun xs ρ2 => compF (own.map (·.2)) tg many dc de xs ρ2).toO fun r ρ1 => O.of ((svOf r).bind fun v => setS i v ρ1)) := by
  have okB : BlkOk X.N X.env.scope scope own := by rw [xc.nm, xc.sc]; exact blkOk_by ok
  refine PS.imp (ps_setLc (i := i) xc.calm (by rw [xc.nm]; exact xc.nd) (by rw [xc.nm]; exact hy) (by rw [xc.sc]; exact hyl) hsw hi okB hg ht (fun s H C cl fp => fe_d (he s H C cl fp)) (folded_ok hs)) fun D σ H hq => ?_
  exact comp_imp sub (asg_imp hq)
/-! ### several names at once -/
theorem parAll_ok : ∀ {is : List Nat} {rs : List RV} {vs : List V} {σ0 σ : L2.St} {ρ0 ρ ρ' : Env} {H0 : Hp}, is.Nodup → ER c b σ0 ρ0 H0 → ER c b σ ρ H → RvL c σ0 H0 H vs rs → parAll is rs ρ = some ρ' →
    (∀ (k : Nat) o a, rs[k]? = some (.n o) → vs[k]? = some (.ref a) → ∀ (j : Nat) w' o', ρ[j]? = some (some (SV.m w' o')) → σ[j]? ≠ some (some (V.ref a))) →
    vs.length = is.length ∧ ER c b (is.zip vs |>.foldl (fun σ p => σ.set p.1 (some p.2)) σ) ρ' H
  | [], [], vs, σ0, σ, ρ0, ρ, ρ', H0, nd, r0, r, v, e, fr => by
    cases v
    cases e
    exact ⟨rfl, r⟩
  | [], _ :: _, _, _, _, _, _, _, _, _, _, _, _, e, _ => by cases e
  | _ :: _, [], _, _, _, _, _, _, _, _, _, _, _, e, _ => by cases e
  | i :: is, q :: rs, _, σ0, σ, ρ0, ρ, ρ', H0, nd, r0, r, .cons (x := x) (xs := vs) h t dj, e, fr => by
    obtain ⟨sv, e1, e⟩ := bind1 e
    obtain ⟨ρ1, e2, e3⟩ := bind1 e
    have hsv : Sv c H x sv ∧ ∀ w o a, sv = .m w o → x = .ref a → w = true ∧ b.H0 a = none ∧ q = .n o := by
      cases q with
      | d d => cases e1; exact ⟨h, fun _ _ _ z => nomatch z⟩
      | n o =>
        cases e1
        obtain ⟨a, ea, m, n⟩ := h
        refine ⟨⟨a, ea, m⟩, fun w o a' hz hx => ?_⟩
        cases hz
        rw [hx] at ea
        cases ea
        exact ⟨rfl, r0.fresh0 n, rfl⟩
      | sl i => cases e1
    have r1 : ER c b (σ.set i (some x)) ρ1 H := r.set hsv.1 e2 fun w o a hz hx => by
      obtain ⟨h1, h2, h3⟩ := hsv.2 w o a hz hx
      exact ⟨h1, h2, fun j w' o' _ => fr 0 o a (by rw [h3]; rfl) (by rw [hx]; rfl) j w' o'⟩
    obtain ⟨hi, e2', _⟩ := setS_ok e2
    obtain ⟨hl, r2⟩ := parAll_ok (σ := σ.set i (some x)) (List.nodup_cons.mp nd).2 r0 r1 t e3 fun k o a ek ex j w' o' ej es => by
      by_cases hj : i = j
      · subst hj
        rw [List.getElem?_set_self (by rw [r.len]; exact hi)] at es
        rw [e2', List.getElem?_set_self hi] at ej
        cases es
        cases ej
        obtain ⟨_, _, h3⟩ := hsv.2 _ _ a rfl rfl
        exact dj _ h3 k o ek (by rw [ex])
      · rw [List.getElem?_set_ne hj] at es
        rw [e2', List.getElem?_set_ne hj] at ej
        exact fr (k + 1) o a (by simpa using ek) (by simpa using ex) j w' o' ej es
    exact ⟨by rw [List.length_cons, List.length_cons, hl], r2⟩
theorem par_imp {is : List Nat} (nd : is.Nodup) {f : Env → R (List RV)} {D : Ends} (hq : tO c b W (fun ρ => (f ρ).toO fun rs ρ1 => O.of (parAll is rs ρ1)) D σ H) :
    tFL c b W f σ H (fun vs H1 => vs.length = is.length ∧ D.nx (is.zip vs |>.foldl (fun σ p => σ.set p.1 (some p.2)) σ) H1) := by
  obtain ⟨ρ, r, hq⟩ := hq
  refine ⟨ρ, r, o_bind (rep := RvL c σ) r hq fun rs ρ1 vs H1 r1 s1 v1 p1 => ?_⟩
  obtain ⟨ρ2, e, p1⟩ := O_of p1
  obtain ⟨hl, r2⟩ := parAll_ok nd r r1 v1 e fun k o a ek ex j w' o' ej es => by
    obtain ⟨x, e1, hx⟩ := v1.get ek
    rw [ex] at e1
    cases e1
    obtain ⟨a', ea, _, n⟩ := hx
    cases ea
    exact r.freshMut n (s1.mut ⟨j, w', o', ej, es⟩)
  exact ⟨hl, p1 _ H1 r2 (s1.pers r)⟩
theorem fs_par2 (xc : XC c N sc n X) {i j : Nat} {x y : Str} {a e2 : Expr} {px py pt pos : Pos} {kt k2 : Nat} {pt2 : Pos} {d : Den} (hi : N[i]? = some x) (hj : N[j]? = some y) (hij : i ≠ j) (hx : sc.names.lookup x = some .local) (hy : sc.names.lookup y = some .local) (ha : PA X [a, e2] (tFL c b W d.l))
    (hw : swappedStores [.Tuple [.Name x px, .Name y py] kt pt] (.Tuple [a, e2] k2 pt2) X.env = pure (some [x, y])) :
    PS X (.Assign [.Tuple [.Name x px, .Name y py] kt pt] (.Tuple [a, e2] k2 pt2) pos) (tO c b W fun ρ => (d.l ρ).toO fun rs ρ1 => O.of (parAll [i, j] rs ρ1)) :=
  PS.imp (ps_par (i := i) (j := j) xc.calm (by rw [xc.nm]; exact xc.nd) (by rw [xc.nm]; exact hi) (by rw [xc.nm]; exact hj) hij (by rw [xc.sc]; exact hx) (by rw [xc.sc]; exact hy) ha hw rfl) fun D σ H hq => by
    obtain ⟨ρ, r, hh⟩ := par_imp (by simp [hij]) hq
    refine ⟨ρ, r, hh.mono fun vs H1 h1 => ?_⟩
    match vs, h1 with
    | [v, w], h1 => exact ⟨v, w, rfl, h1.2⟩
    | [], h1 => cases h1.1
    | [_], h1 => cases h1.1
    | _ :: _ :: _ :: _, h1 => cases h1.1
theorem fs_par3 (xc : XC c N sc n X) {i j l : Nat} {x y z : Str} {a e2 e3 : Expr} {px py pz pt pos : Pos} {kt k2 : Nat} {pt2 : Pos} {d : Den} (hi : N[i]? = some x) (hj : N[j]? = some y) (hl : N[l]? = some z) (hij : i ≠ j) (hil : i ≠ l) (hjl : j ≠ l) (hx : sc.names.lookup x = some .local) (hy : sc.names.lookup y = some .local) (hz : sc.names.lookup z = some .local) (ha : PA X [a, e2, e3] (tFL c b W d.l))
    (hw : swappedStores [.Tuple [.Name x px, .Name y py, .Name z pz] kt pt] (.Tuple [a, e2, e3] k2 pt2) X.env = pure (some [x, y, z])) :
    PS X (.Assign [.Tuple [.Name x px, .Name y py, .Name z pz] kt pt] (.Tuple [a, e2, e3] k2 pt2) pos) (tO c b W fun ρ => (d.l ρ).toO fun rs ρ1 => O.of (parAll [i, j, l] rs ρ1)) :=
  PS.imp (ps_par3 (i := i) (j := j) (l := l) xc.calm (by rw [xc.nm]; exact xc.nd) (by rw [xc.nm]; exact hi) (by rw [xc.nm]; exact hj) (by rw [xc.nm]; exact hl) hij hil hjl (by rw [xc.sc]; exact hx) (by rw [xc.sc]; exact hy) (by rw [xc.sc]; exact hz) ha hw rfl) fun D σ H hq => by
    obtain ⟨ρ, r, hh⟩ := par_imp (by simp [hij, hil, hjl]) hq
    refine ⟨ρ, r, hh.mono fun vs H1 h1 => ?_⟩
    match vs, h1 with
    | [u, v, w], h1 => exact ⟨u, v, w, rfl, h1.2⟩
    | [], h1 => cases h1.1
    | [_], h1 => cases h1.1
    | [_, _], h1 => cases h1.1
    | _ :: _ :: _ :: _ :: _, h1 => cases h1.1
/-! ### o[i] = e, names unpacked -/
theorem put_gen {i : Nat} {x : V} {d : Fl.D} {f : Env → R RV} {ρ : Env} {D : Ends} {k : Env → O} (r : ER c b σ ρ H) (hx : Rp c H x d)
    (hq : OPost c b W H D ((f ρ).toO fun q ρ3 => (toD q ρ3).toO fun y ρ4 => (match putS i y d ρ4 with
      | some ρ5 => k ρ5
      | none => .bad))) (hp : ∃ w o, ρ[i]? = some (some (SV.m w o))) :
    ∃ o, σ[i]? = some (some o) ∧ tFD c b W (fun ρ => (f ρ).bind toD) σ H (fun y H2 => rPut c o y x H2 fun H3 => ∃ ρ5, ER c b σ ρ5 H3 ∧ Pers H H3 ∧ OPost c b W H D (k ρ5)) := by
  obtain ⟨w0, o0, e0⟩ := hp
  obtain ⟨xo, e1, a, ea, m0⟩ := r.slot i _ e0
  subst ea
  refine ⟨_, e1, ρ, r, ?_⟩
  have hq : OPost c b W H D (((f ρ).bind toD).toO fun y ρ4 => (match putS i y d ρ4 with
      | some ρ5 => k ρ5
      | none => .bad)) := by
    cases ef : f ρ with
    | ok q ρ3 => rw [ef] at hq; exact hq
    | ex e ρ3 => rw [ef] at hq; exact hq
    | bad => rw [ef] at hq; exact hq
  refine o_bind (rep := fun _ H' x d => Rp c H' x d) r hq fun y ρ4 yv H2 r2 s2 v2 p2 => ?_
  cases ep : putS i y d ρ4 with
  | none => rw [ep] at p2; exact p2.elim
  | some ρ5 =>
    rw [ep] at p2
    have P2 := s2.pers r
    unfold putS at ep
    split at ep
    · rename_i w o eo
      cases em : putM o y d with
      | none => rw [em] at ep; cases ep
      | some o' =>
        rw [em] at ep
        cases ep
        obtain ⟨x2, f1, a2, ea2, m2⟩ := r2.slot i _ eo
        rw [e1] at f1
        cases f1
        cases ea2
        refine ⟨a, o, o', y, d, rfl, m2, v2, hx.pers P2, em, fun u hm => ?_⟩
        obtain ⟨r3, s3, P3⟩ := upd_at r2 eo e1 upd_oth hm
        exact ⟨_, r3, P2.trans P3, p2⟩
    · cases ep
theorem putS_m {i : Nat} {x d : Fl.D} {ρ ρ' : Env} (h : putS i x d ρ = some ρ') : ∃ w o, ρ[i]? = some (some (SV.m w o)) := by
  unfold putS at h
  split at h
  · rename_i w o e; exact ⟨w, o, e⟩
  · cases h
/-- o[i] = e -/
theorem fs_put (xc : XC c N sc n X) {i : Nat} {x : Str} {ex e : Expr} {dx d : Den} {p p2 pos : Pos} (hi : N[i]? = some x) (hv : Vis sc x) (hd : (x == ("__debug__" : Str)) = false) (hcd : (x == ("__classdict__" : Str)) = false) (hx : FD c b W X ex dx) (he : FD c b W X e d) (hsh : ∀ v, assign (.Subscript (.Name x p) ex p2) X.env v = (do
      let ov ← holding [v] (eval (.Name x p) X.env)
      let iv ← holding [v, ov] (eval ex X.env)
      standAt p2
      holding [v, ov, iv] (setItem ov iv v)
      release [v, ov, iv] [])) :
    PS X (.Assign [.Subscript (.Name x p) ex p2] e pos) (tO c b W fun ρ => (d.v ρ).toO fun r ρ1 => (toD r ρ1).toO fun v ρ2 => match ρ2[i]? with
      | some (some (.m _ _)) => (dx.v ρ2).toO fun q ρ3 => (toD q ρ3).toO fun y ρ4 => O.of (putS i y v ρ4)
      | _ => .bad) := by
  refine PS.imp (ps_asg (fe_d he.v) (pg_sub (pe_var (i := i) (by rw [xc.nm]; exact hi) (by rw [xc.sc]; exact hv) hd hcd) (fe_d hx.v) (set_put xc) hsh) (sole_tgt rfl) (st_tgt rfl) rfl) fun D σ H hq => ?_
  obtain ⟨ρ, r, hq⟩ := hq
  dsimp only at hq
  have hq : OPost c b W H D (((d.v ρ).bind toD).toO fun v ρ2 => (match ρ2[i]? with
      | some (some (.m _ _)) => (dx.v ρ2).toO fun q ρ3 => (toD q ρ3).toO fun y ρ4 => O.of (putS i y v ρ4)
      | _ => .bad)) := by
    cases ef : d.v ρ with
    | ok q ρ3 => rw [ef] at hq; exact hq
    | ex e ρ3 => rw [ef] at hq; exact hq
    | bad => rw [ef] at hq; exact hq
  refine ⟨ρ, r, o_bind (rep := fun _ H' x d => Rp c H' x d) r hq fun v ρ2 xv H2 r2 s2 v2 p2 => ?_⟩
  have P2 := s2.pers r
  split at p2
  · rename_i w o em
    have p2 : OPost c b W H2 D ((dx.v ρ2).toO fun q ρ3 => (toD q ρ3).toO fun y ρ4 => (match putS i y v ρ4 with
      | some ρ5 => .nx ρ5
      | none => .bad)) := p2.back P2
    obtain ⟨o1, e1, h1⟩ := put_gen (k := fun ρ5 => .nx ρ5) r2 v2 p2 ⟨w, o, em⟩
    refine ⟨o1, e1, ?_⟩
    obtain ⟨ρ3, r3, h1⟩ := h1
    refine ⟨ρ3, r3, h1.mono fun y H3 h3 => ?_⟩
    obtain ⟨a, mo, mo', x', d', g1, g2, g3, g4, g5, g6⟩ := h3
    refine ⟨a, mo, mo', x', d', g1, g2, g3, g4, g5, fun u hu => ?_⟩
    obtain ⟨ρ5, r5, P5, p5⟩ := g6 u hu
    exact p5 σ _ r5 P5
  · exact p2.elim
theorem putF_rel {f : Nat} {v : V} {d : Fl.D} (inj : ∀ f g, c.fldN f = c.fldN g → f = g) (rv : Rp c H v d) : ∀ {fv : List (Str × V)} {fs : List (Nat × Fl.D)}, fv.map (·.1) = fs.map (fun p => c.fldN p.1) → RpL c H (fv.map (·.2)) (fs.map (·.2)) →
    (putF (c.fldN f) v fv).map (·.1) = (putF1 f d fs).map (fun p => c.fldN p.1) ∧ RpL c H ((putF (c.fldN f) v fv).map (·.2)) ((putF1 f d fs).map (·.2))
  | [], [], _, _ => ⟨rfl, .cons rv .nil⟩
  | [], _ :: _, e, _ => by cases e
  | _ :: _, [], e, _ => by cases e
  | (y, x) :: fv, (g, z) :: fs, e, r => by
    rw [List.map_cons, List.map_cons] at e
    injection e with e1 e2
    have e1 : y = c.fldN g := e1
    rw [List.map_cons, List.map_cons] at r
    cases r with
    | cons r1 r2 =>
      unfold putF putF1
      by_cases hg : g = f
      · subst hg
        rw [if_pos e1, if_pos rfl, List.map_cons, List.map_cons, List.map_cons, List.map_cons, e2]
        exact ⟨by rw [e1], .cons rv r2⟩
      · rw [if_neg fun z => hg (inj _ _ (e1.symm.trans z)), if_neg hg]
        obtain ⟨h1, h2⟩ := putF_rel inj rv e2 r2
        rw [List.map_cons, List.map_cons, List.map_cons, List.map_cons, h1]
        exact ⟨by rw [e1], .cons r1 h2⟩
/-- o.f = e -/
theorem fs_fset {kwT : KwT} (xc : XC c N sc n X) (cf : CF c) (ck : ClsOk c kwT call m P) {i f : Nat} {x : Str} {e : Expr} {d : Den} {p p2 pos : Pos} (hi : N[i]? = some x) (hv : Vis sc x) (hd : (x == ("__debug__" : Str)) = false) (hcd : (x == ("__classdict__" : Str)) = false) (he : FD c b W X e d) :
    PS X (.Assign [.Attribute (.Name x p) (c.fldN f) p2] e pos) (tO c b W fun ρ => (d.v ρ).toO fun r ρ1 => (toD r ρ1).toO fun v ρ2 => match ρ2[i]? with
      | some (some (.m w (.i C fs))) => if fs.length < 1000 ∧ (P.ci C).flds.contains f = true then .nx (ρ2.set i (some (.m w (.i C (putF1 f v fs))))) else .bad
      | _ => .bad) := by
  refine PS.imp (ps_fld (pe_var (i := i) (by rw [xc.nm]; exact hi) (by rw [xc.sc]; exact hv) hd hcd) (fe_d he.v) (sw_tgt rfl)) fun D σ H hq => ?_
  obtain ⟨ρ, r, hq⟩ := hq
  dsimp only at hq
  have hq : OPost c b W H D (((d.v ρ).bind toD).toO fun v ρ2 => (match ρ2[i]? with
      | some (some (.m w (.i C fs))) => if fs.length < 1000 ∧ (P.ci C).flds.contains f = true then .nx (ρ2.set i (some (.m w (.i C (putF1 f v fs))))) else .bad
      | _ => .bad)) := by
    cases ef : d.v ρ with
    | ok q ρ3 => rw [ef] at hq; exact hq
    | ex e ρ3 => rw [ef] at hq; exact hq
    | bad => rw [ef] at hq; exact hq
  refine ⟨ρ, r, o_bind (rep := fun _ H' x d => Rp c H' x d) r hq fun v ρ2 xv H2 r2 s2 v2 p2 => ?_⟩
  split at p2
  · rename_i w C fs em
    split at p2
    · rename_i hz
      obtain ⟨xo, e1, a, ea, hC, dx, fv, hv2, e2, t⟩ := r2.slot i _ em
      subst ea
      refine ⟨_, e1, a, c.clsA C, dx, fv, rfl, hv2, by rw [xc.K]; exact cf.cl C hC, by rw [xc.K]; exact ck.fld C f hC hz.2, ?_, ?_⟩
      · have := congrArg List.length e2
        rw [List.length_map, List.length_map] at this
        omega
      · have P : Pers H2 (upd H2 a (.ins (c.clsA C) dx (putF (c.fldN f) xv fv))) := pers_upd hv2 rfl
        obtain ⟨g1, g2⟩ := putF_rel (f := f) ck.inj v2 e2 t
        obtain ⟨r3, s3, P3⟩ := upd_at (o' := .i C (putF1 f v fs)) (H' := upd H2 a (.ins (c.clsA C) dx (putF (c.fldN f) xv fv))) r2 em e1 upd_oth ⟨hC, dx, _, upd_same, g1, g2.pers P⟩
        exact p2 σ _ r3 ((s2.pers r).trans P3)
    · exact p2.elim
  · exact p2.elim
/-- where a part of an unpacked tuple goes -/
def gT (c : SC) (b : Bs) (W : WX) : List (Nat ⊕ (Nat × Den)) → TGs
  | [] => gNil
  | .inl i :: ts => gCons (gName i) (gT c b W ts)
  | .inr (i, e) :: ts => gCons (gSub (tVar i) (tFD c b W fun ρ => (e.v ρ).bind toD) (rPut c)) (gT c b W ts)
theorem toO_bind {α β : Type} (o : R α) (f : α → Env → R β) (g : β → Env → O) : (o.bind f).toO g = o.toO fun a ρ => (f a ρ).toO g := by
  cases o <;> rfl
theorem stT_ok : ∀ {ts : List (Nat ⊕ (Nat × Den))} {ds : List Fl.D} {vs : List V} {σ : L2.St} {ρ : Env} {H : Hp} {D : Ends}, ER c b σ ρ H → RpL c H vs ds → OPost c b W H D ((stT ts ds ρ).toO fun _ ρ2 => .nx ρ2) → gT c b W ts vs σ H D.nx
  | [], [], _, σ, ρ, H, D, r, .nil, hq => ⟨rfl, hq σ H r (.refl H)⟩
  | [], _ :: _, _, _, _, _, _, _, _, hq => hq.elim
  | .inl i :: ts, [], _, _, _, _, _, _, _, hq => hq.elim
  | .inr _ :: ts, [], _, _, _, _, _, _, _, hq => hq.elim
  | .inl i :: ts, d :: ds, _, σ, ρ, H, D, r, .cons (v := v) (vs := vs) h t, hq => by
    unfold stT at hq
    cases e : setS i (.d d) ρ with
    | none => rw [e] at hq; exact hq.elim
    | some ρ1 =>
      rw [e] at hq
      exact ⟨v, vs, rfl, stT_ok (D := D) (r.setD h e) t hq⟩
  | .inr (i, e) :: ts, d :: ds, _, σ, ρ, H, D, r, .cons (v := v) (vs := vs) h t, hq => by
    unfold stT at hq
    split at hq
    · rename_i w o em
      rw [toO_bind] at hq
      have hq : OPost c b W H D ((e.v ρ).toO fun q ρ3 => (toD q ρ3).toO fun y ρ4 => (match putS i y d ρ4 with
        | some ρ5 => (stT ts ds ρ5).toO fun _ ρ2 => .nx ρ2
        | none => .bad)) := by
        have e1 : ((e.v ρ).toO fun q ρ3 => (toD q ρ3).toO fun y ρ4 => (match putS i y d ρ4 with
          | some ρ5 => (stT ts ds ρ5).toO fun _ ρ2 => .nx ρ2
          | none => .bad)) = ((e.v ρ).toO fun a ρ => ((toD a ρ).bind fun x ρ2 => (match putS i x d ρ2 with
            | some ρ3 => stT ts ds ρ3
            | none => .bad)).toO fun x ρ2 => O.nx ρ2) := by
          congr 1
          funext q ρ3
          rw [toO_bind]
          congr 1
          funext y ρ4
          cases putS i y d ρ4 <;> rfl
        rw [e1]
        exact hq
      obtain ⟨o1, e1, ρ3, r3, h1⟩ := put_gen (k := fun ρ5 => (stT ts ds ρ5).toO fun _ ρ2 => .nx ρ2) r h hq ⟨w, o, em⟩
      refine ⟨v, vs, rfl, o1, e1, ρ3, r3, h1.mono fun y H3 h3 => ?_⟩
      obtain ⟨a, mo, mo', x', d', g1, g2, g3, g4, g5, g6⟩ := h3
      refine ⟨a, mo, mo', x', d', g1, g2, g3, g4, g5, fun u hu => ?_⟩
      obtain ⟨ρ5, r5, P5, p5⟩ := g6 u hu
      exact stT_ok (D := D) r5 (t.pers P5) (p5.back P5)
    · exact hq.elim
/-- a, b, .. = a tuple -/
theorem fs_unp (xc : XC c N sc n X) {es : List Expr} {e : Expr} {k : Nat} {tpos pos : Pos} {d : Den} {ts : List (Nat ⊕ (Nat × Den))} (he : FD c b W X e d) (ht : isTupE e = false) (hg : PGs X es (gT c b W ts)) (hn : (assignEach es X.env).length = ts.length) (hst : (assignEach es X.env).findIdx? (·.1) = none) :
    PS X (.Assign [.Tuple es k tpos] e pos) (tO c b W fun ρ => (d.v ρ).toO fun r ρ1 => (match view ρ1 r with
      | some (.tup xs) => if xs.length = ts.length then (stT ts xs ρ1).toO fun _ ρ2 => .nx ρ2 else .bad
      | some (.tk xs) => if xs.length = ts.length then (stT ts xs ρ1).toO fun _ ρ2 => .nx ρ2 else .bad
      | _ => .bad)) := by
  refine PS.imp (ps_asg he.v (pg_tup xc.calm hg hn hst) (sole_tgt rfl) (st_val ht) rfl) fun D σ H hq => ?_
  obtain ⟨ρ, r, hq⟩ := hq
  refine ⟨ρ, r, o_bind (rep := Rv c σ) r hq fun q ρ1 x H1 r1 s1 v1 p1 => ?_⟩
  have P1 := s1.pers r
  split at p1
  · rename_i xs ev
    split at p1
    · rename_i hl
      obtain ⟨a, vs, rfl, ha, t⟩ := (view_ok r1 v1 ev).tup
      exact ⟨a, vs, rfl, SqT.of ha, by rw [t.length]; exact hl, stT_ok (D := D) r1 t (p1.back P1)⟩
    · exact p1.elim
  · rename_i xs ev
    split at p1
    · rename_i hl
      obtain ⟨a, vs, rfl, ha, t⟩ := (view_ok r1 v1 ev).tk
      exact ⟨a, vs, rfl, by rw [xc.K]; exact ha.sq _, by rw [t.length]; exact hl, stT_ok (D := D) r1 t (p1.back P1)⟩
    · exact p1.elim
  · exact p1.elim
end
end Fl
set_option Elab.async false
set_option linter.all false
set_option maxRecDepth 100000
set_option maxHeartbeats 4000000
/-! Layer F, part 19: from the text to the small language. -/
namespace Fl
open PySem PySem.Spec PyProof.Rows L2 NdefX LamX
/-- the program's names -/
structure Tab where
  consts : List (Str × D)
  defs : List (Str × Nat)
  clss : List (Str × Nat × Nat)
  flds : List Str
  blts : List Str
  kwT : KwT
def idx (l : List Str) (x : Str) : Option Nat := match l with
  | [] => none
  | y :: r => if y = x then some 0 else (idx r x).map (· + 1)
def visB (sc : Scope) (x : Str) : Bool := match sc.names.lookup x with
  | some .local => true
  | some .cell => true
  | some .free => true
  | _ => false
def globB (sc : Scope) (x : Str) : Bool := match sc.names.lookup x with
  | some .globalImplicit => true
  | _ => false
def nmOk (x : Str) : Bool := !(x == ("__debug__" : Str)) && !(x == ("__classdict__" : Str)) && !(x == ("__name__" : Str))
def bltOf (x : Str) : Option Bl :=
  if x = "len" then some .len else if x = "abs" then some .abs else if x = "int" then some .int else if x = "min" then some .min else if x = "max" then some .max else if x = "sum" then some .sum
  else if x = "all" then some .all else if x = "any" then some .any else if x = "sorted" then some .sorted else if x = "list" then some .list else if x = "tuple" then some .tuple else if x = "str" then some .str
  else if x = "divmod" then some .divmod else none
def tyOf (T : Tab) (x : Str) : Option Ty := match T.clss.lookup x with
  | some (C, _) => some (.cls C)
  | none => if T.blts.contains x = true then (if x = "int" then some .int else if x = "str" then some .str else if x = "bool" then some .bool else if x = "tuple" then some .tuple else if x = "list" then some .list else if x = "dict" then some .dict else none) else none
def ofConst : Const → Option D
  | .none => some .non
  | .bool b => some (.bl b)
  | .int i => some (.int i)
  | .str s => some (.str s)
  | _ => none
def notSlice : Expr → Bool
  | .Slice _ _ _ _ => false
  | _ => true
/-- a list of expressions -/
def mapE (f : Expr → Option E) : List Expr → Option E
  | [] => some .nil
  | e :: es => match f e, mapE f es with
    | some a, some r => some (.cons a r)
    | _, _ => none
def mapK (f : Expr → Option E) : List Keyword → Option E
  | [] => some .nil
  | ⟨_, e, _⟩ :: es => match f e, mapK f es with
    | some a, some r => some (.cons a r)
    | _, _ => none
def mapAnd (f : Expr → Option E) : List Expr → Option E
  | [] => none
  | [a] => f a
  | a :: r => match f a, mapAnd f r with
    | some x, some y => some (.and x y)
    | _, _ => none
def mapOr (f : Expr → Option E) : List Expr → Option E
  | [] => none
  | [a] => f a
  | a :: r => match f a, mapOr f r with
    | some x, some y => some (.or x y)
    | _, _ => none
/-- the parts of an f-string -/
def mapF (f : Expr → Option E) : List Expr → Option E
  | [] => some .nil
  | .Constant (.str y) _ _ :: es => match mapF f es with
    | some r => some (.cons (.k (.str y)) r)
    | none => none
  | .FormattedValue e (-1) none _ :: es => match f e, mapF f es with
    | some a, some r => some (.cons (.fv a) r)
    | _, _ => none
  | _ => none
def optE (f : Expr → Option E) : Option Expr → Option E
  | none => some .nil
  | some e => match f e with
    | some .nil => none
    | r => r
def ifsE (f : Expr → Option E) : List Expr → Option E
  | [] => some .nil
  | [t] => optE f (some t)
  | _ => none
def idxs (N : List Str) : List Str → Option (List Nat)
  | [] => some []
  | x :: xs => match idx N x, idxs N xs with
    | some i, some is => some (i :: is)
    | _, _ => none
def allLocal (sc : Scope) : List Expr → Bool
  | [] => true
  | .Name x _ :: es => decide (sc.names.lookup x = some .local) && allLocal sc es
  | _ => false
def localB (sc : Scope) (x : Str) : Bool := decide (sc.names.lookup x = some .local) || decide (sc.names.lookup x = some .cell)
def allLoc (sc : Scope) : List Expr → Bool
  | [] => true
  | .Name x _ :: es => localB sc x && allLoc sc es
  | _ => false
def namesE (es : List Expr) : List Str := es.filterMap fun e => match e with | .Name x _ => some x | _ => none
/-- a target of a block: its own names -/
def tgt (N : List Str) (sc : Scope) : Expr → Option (List Nat × Bool)
  | .Name x _ => if decide (sc.names.lookup x = some .local) = true then (idx N x).map fun i => ([i], false) else none
  | .Tuple es _ _ => if allLocal sc es = true then (idxs N (namesE es)).map fun is => (is, true) else none
  | _ => none
/-- a target of a loop -/
def tgtS (N : List Str) (sc : Scope) : Expr → Option (List Nat × Bool)
  | .Name x _ => if localB sc x = true then (idx N x).map fun i => ([i], false) else none
  | .Tuple es _ _ => if allLoc sc es = true then (idxs N (namesE es)).map fun is => (is, true) else none
  | _ => none
/-- the names of a comprehension, with their places -/
def ownOf (N : List Str) (scope : Scope) : List (Str × Nat) := scope.names.filterMap fun y => match y.2 with
  | .local => (idx N y.1).map fun i => (y.1, i)
  | .cell => (idx N y.1).map fun i => (y.1, i)
  | _ => none
def keyOf (p : Pos) : Nat := 1000 + p.line * 1000 + p.col
/-- what a lambda captures -/
def freeOf (scope : Scope) : List Str := scope.names.filterMap fun y => if y.2 = .free then some y.1 else none
/-- a written iteration: its kind, its arguments -/
def itOf (T : Tab) (sc : Scope) (tup : Bool) : Expr → Option (Itk × List Expr)
  | .Call (.Name x p) as [] pos =>
    if x = "range" then (if T.blts.contains x = true ∧ globB sc x = true ∧ (as.length = 1 ∨ as.length = 2) then some (.range, as) else none)
    else if x = "enumerate" then (if tup = true ∧ T.blts.contains x = true ∧ globB sc x = true ∧ as.length = 1 then some (.enum, as) else none)
    else if x = "zip" then (if tup = true ∧ T.blts.contains x = true ∧ globB sc x = true ∧ as.length = 2 then some (.zip, as) else none)
    else some (.seq, [.Call (.Name x p) as [] pos])
  | e => some (.seq, [e])
def isTupT : Expr → Bool
  | .Tuple _ _ _ => true
  | _ => false
/-- a call of a name -/
inductive CK where
  | blt (b : Bl) | isi | df (k : Nat) | mk (C f : Nat) | app (i : Nat) | no
def ckOf (T : Tab) (N : List Str) (sc : Scope) (x : Str) : CK :=
  if nmOk x = true then
    if visB sc x = true then (match idx N x with
      | some i => .app i
      | none => .no)
    else if globB sc x = true then (match T.defs.lookup x with
      | some k => .df k
      | none => (match T.clss.lookup x with
        | some (C, f) => .mk C f
        | none => if T.blts.contains x = true then (if x = "isinstance" then .isi else (match bltOf x with
          | some b => .blt b
          | none => .no)) else .no))
    else .no
  else .no
def splitLast : List Expr → Option (List Expr × Expr)
  | [] => none
  | [e] => some ([], e)
  | e :: r => match splitLast r with
    | some (l, x) => some (e :: l, x)
    | none => none
/-- a lambda that is covered: no defaults, what it captures are cells here -/
def lamB (sc scope : Scope) (params : Arguments) : Bool := params.defaults.isEmpty && params.kw_defaults.isEmpty && (freeOf scope).all fun y => match sc.names.lookup y with
  | some .cell => true
  | some .free => true
  | _ => false
/-- expressions; lam: lambdas may stand here, the qualified name's beginning -/
def trE (T : Tab) (N : List Str) : Nat → Scope → Option Str → Expr → Option E
  | 0, _, _, _ => none
  | n + 1, sc, lam, e => match e with
    | .Constant v _ _ => (ofConst v).map .k
    | .Name x _ => if nmOk x = true then (if visB sc x = true then (idx N x).map .v else if globB sc x = true then (match T.consts.lookup x with
        | some d => some (.k d)
        | none => (match T.defs.lookup x with
          | some k => some (.k (.fn k []))
          | none => none)) else none) else none
    | .Tuple es _ _ => if es.all notStar = true then (mapE (trE T N n sc lam) es).map .tup else none
    | .List es _ => if es.all notStar = true then (mapE (trE T N n sc lam) es).map .lst else none
    | .Dict [] [] _ => some .dnew
    | .BinOp a op b _ => (match trE T N n sc lam a, trE T N n sc lam b with
      | some x, some y => some (.bin op x y)
      | _, _ => none)
    | .UnaryOp op a _ => (match trE T N n sc lam a with
      | some x => if op = .Not then some (.not x) else some (.un op x)
      | none => none)
    | .BoolOp .And es _ => mapAnd (trE T N n sc lam) es
    | .BoolOp .Or es _ => mapOr (trE T N n sc lam) es
    | .IfExp c a b _ => (match trE T N n sc lam c, trE T N n sc lam a, trE T N n sc lam b with
      | some z, some x, some y => some (.ite z x y)
      | _, _, _ => none)
    | .Compare a [op] [b] _ => (match trE T N n sc lam a, trE T N n sc lam b with
      | some x, some y => if notSetD b = true then some (.cmp op x y) else none
      | _, _ => none)
    | .Compare a [op, op2] [b, c] _ => (match trE T N n sc lam a, trE T N n sc lam b, trE T N n sc lam c with
      | some x, some y, some z => if notSetD c = true then some (.cmp2 op op2 x y z) else none
      | _, _, _ => none)
    | .Subscript a (.Slice lo hi none _) _ => (match trE T N n sc lam a, optE (trE T N n sc lam) lo, optE (trE T N n sc lam) hi with
      | some x, some y, some z => some (.sl x y z)
      | _, _, _ => none)
    | .Subscript a i _ => (match trE T N n sc lam a, trE T N n sc lam i with
      | some x, some y => if notSlice i = true then some (.ix x y) else none
      | _, _ => none)
    | .Attribute o f _ => (match trE T N n sc lam o, idx T.flds f with
      | some x, some k => if okBase o = true then some (.att x k) else none
      | _, _ => none)
    | .JoinedStr (v1 :: v2 :: rest) _ => (mapF (trE T N n sc lam) (v1 :: v2 :: rest)).map .fstr
    | .ListComp elt [⟨tg, it, ifs, 0⟩] scope _ => (match itOf T sc (isTupT tg) it with
      | some (k, as) => (match mapE (trE T N n sc lam) as, tgt N (relS scope sc) tg, ifsE (trE T N n (relS scope sc) none) ifs, trE T N n (relS scope sc) none elt with
        | some src, some (tgs, many), some c, some x => if blkC N sc scope (ownOf N scope) = true ∧ notSetD it = true ∧ (tgs.all fun i => ((ownOf N scope).map (·.2)).contains i) = true ∧ as.all notStar = true then some (.comp x tgs many k src c ((ownOf N scope).map (·.2))) else none
        | _, _, _, _ => none)
      | none => none)
    | .Call (.Name x _) as [] _ => (match splitLast as with
      | some (l, .Lambda params body scope lpos) => (match lam, ckOf T N sc x, mapE (trE T N n sc lam) l, idxs N (freeOf scope) with
        | some q, .df k, some a, some cs => if l.all notStar = true ∧ lamB sc scope params = true then some (.callL k a (keyOf lpos) cs ⟨q ++ "<lambda>", params, body, scope, freeOf scope⟩) else none
        | _, _, _, _ => none)
      | _ => (match ckOf T N sc x with
        | .blt b => (match as, mapE (trE T N n sc lam) as with
          | _ :: _, some a => if as.all notStar = true then some (.blt b a) else none
          | _, _ => none)
        | .isi => (match as with
          | [o, .Name y _] => (match trE T N n sc lam o, tyOf T y with
            | some a, some t => if notStar o = true ∧ globB sc y = true ∧ nmOk y = true then some (.blt (.isi t) (.cons a .nil)) else none
            | _, _ => none)
          | _ => none)
        | .df k => (match mapE (trE T N n sc lam) as with
          | some a => if as.all notStar = true then some (.call k a) else none
          | none => none)
        | .mk C f => (match as, mapE (trE T N n sc lam) as with
          | _ :: _, some a => if as.all notStar = true then some (.new C f a) else none
          | _, _ => none)
        | .app i => (match as, mapE (trE T N n sc lam) as with
          | _ :: _, some a => if as.all notStar = true then some (.app i a) else none
          | _, _ => none)
        | .no => none))
    | .Call (.Name x _) as (kw :: kws) _ => (match ckOf T N sc x, mapE (trE T N n sc lam) as, mapK (trE T N n sc lam) (kw :: kws) with
      | .df k, some a, some b => (match T.kwT.find? (fun r => r.1 == k && r.2.1 == as.length && r.2.2.1 == kwNames (kw :: kws)) with
        | some (_, _, _, p) => if as.all notStar = true ∧ (kw :: kws).all kwOk = true ∧ p.Nodup then some (.callK k as.length (kwNames (kw :: kws)).length a b p) else none
        | none => none)
      | _, _, _ => none)
    | .Call (.Attribute (.Name x p) m apos) as [] pos => if m = "split" then (match as, trE T N n sc lam (.Name x p), mapE (trE T N n sc lam) as with
        | [a0], some o, some a => if notStar a0 = true ∧ (apos.endLine == pos.line) = true then some (.mth .split o a) else none
        | _, _, _ => none)
      else if m = "append" then (match as, idx N x, mapE (trE T N n sc lam) as with
        | _ :: _, some i, some a => if as.all notStar = true ∧ as.length < 20 ∧ visB sc x = true ∧ nmOk x = true ∧ (apos.endLine == pos.line) = true then some (.mthM .append i a) else none
        | _, _, _ => none)
      else if m = "pop" then (match idx N x, mapE (trE T N n sc lam) as with
        | some i, some a => if as.all notStar = true ∧ as.length < 20 ∧ visB sc x = true ∧ nmOk x = true ∧ (apos.endLine == pos.line) = true then some (.mthM .pop i a) else none
        | _, _ => none)
      else none
    | _ => none
def t1 (T : Tab) (N : List Str) (n : Nat) (sc : Scope) (q : Option Str) : Expr → Option T1
  | .Name x _ => if localB sc x = true then (idx N x).map .s else none
  | .Subscript (.Name x _) i _ => if visB sc x = true ∧ nmOk x = true ∧ notSlice i = true then (match idx N x, trE T N n sc q i with
    | some k, some e => some (.x k e)
    | _, _ => none) else none
  | _ => none
def mapT (f : Expr → Option T1) : List Expr → Option (List T1)
  | [] => some []
  | e :: es => match f e, mapT f es with
    | some a, some r => some (a :: r)
    | _, _ => none
def mapS (f : Stmt → Option S) : List Stmt → Option S
  | [] => some .nil
  | e :: es => match f e, mapS f es with
    | some a, some r => some (.cons a r)
    | _, _ => none
/-- names set at once: the kit's own look at the line -/
def parOk (sc : Scope) (ts vs : List Expr) : Bool :=
  decide (sc.kind = .function) && allLocal sc ts && (ts.all fun t => decide (t.pos.line = (ts.head?.map (·.pos.line)).getD 0)) && decide ((namesE ts).eraseDups.length = ts.length) && !(vs.all (foldedForSure 8)) && !(vs.all (constantsAlone 8)) && vs.all notStar
/-- .. or one after another, from the left -/
def parNo (sc : Scope) (ts vs : List Expr) : Bool := decide (sc.kind = .function) && allLoc sc ts && !(allLocal sc ts) && vs.all notStar
/-- a name's own line: the comprehension writes it -/
def swapB (sc : Scope) (x : Str) (p : Pos) (scope : Scope) (cpos : Pos) : Bool := decide (sc.kind = .function) && decide (sc.names.lookup x = some .local) && (p.line == cpos.line) && !(scope.names.any fun (n, k) => n == x && (k == .local || k == .cell))
def trS (T : Tab) (N : List Str) (q : Option Str) : Nat → Scope → Stmt → Option S
  | 0, _, _ => none
  | n + 1, sc, s => match s with
    | .Pass _ => some .pass
    | .Break _ => some .brk
    | .Continue _ => some .cnt
    | .Raise _ _ _ => some .never
    | .Return none _ => some .retN
    | .Return (some e) _ => (trE T N n sc q e).map .ret
    | .Expr e _ => if notComp e = true then (trE T N n sc q e).map .exp else none
    | .If c a b _ => (match trE T N n sc q c, mapS (trS T N q n sc) a, mapS (trS T N q n sc) b with
      | some x, some y, some z => some (.ite x y z)
      | _, _, _ => none)
    | .While c a [] _ => (match trE T N n sc q c, mapS (trS T N q n sc) a with
      | some x, some y => some (.whl x y)
      | _, _ => none)
    | .For tg it a [] _ => (match itOf T sc (isTupT tg) it with
      | some (k, as) => (match mapE (trE T N n sc q) as, tgtS N sc tg, mapS (trS T N q n sc) a with
        | some src, some (tgs, many), some y => if notSetD it = true ∧ as.all notStar = true then some (.for_ tgs many k src y) else none
        | _, _, _ => none)
      | none => none)
    | .Assign [.Name x _] e _ => (match idx N x, trE T N n sc q e with
      | some i, some v => if localB sc x = true then some (.asg i v) else none
      | _, _ => none)
    | .Assign [.Tuple ts _ _] (.Tuple vs _ _) _ => if (parOk sc ts vs = true ∨ parNo sc ts vs = true) ∧ ts.length = vs.length ∧ (ts.length = 2 ∨ ts.length = 3) then
        (match idxs N (namesE ts), mapE (trE T N n sc q) vs with
        | some is, some v => if is.Nodup then some (.par is v) else none
        | _, _ => none) else none
    | .Assign [.Tuple ts _ _] e _ => (match mapT (t1 T N n sc q) ts, trE T N n sc q e with
      | some l, some v => if isTupE e = false ∧ ts.all notStar = true then some (.asgT l v) else none
      | _, _ => none)
    | .Assign [.Subscript (.Name x _) i _] e _ => (match idx N x, trE T N n sc q i, trE T N n sc q e with
      | some k, some y, some v => if visB sc x = true ∧ nmOk x = true ∧ notSlice i = true then some (.put k y v) else none
      | _, _, _ => none)
    | .Assign [.Attribute (.Name x _) f _] e _ => (match idx N x, idx T.flds f, trE T N n sc q e with
      | some k, some g, some v => if visB sc x = true ∧ nmOk x = true ∧ notComp e = true then some (.fset k g v) else none
      | _, _, _ => none)
    | _ => none
end Fl
set_option Elab.async false
set_option linter.all false
set_option maxRecDepth 100000
set_option maxHeartbeats 4000000
/-! Layer F, part 20: the translation is sound: expressions. -/
namespace Fl
open PySem PySem.Spec PyProof.Rows L2 NdefX LamX
/-- the lambdas of an expression -/
def lamsE : E → List (Nat × LI)
  | .cons a r => lamsE a ++ lamsE r
  | .tup l => lamsE l
  | .lst l => lamsE l
  | .bin _ a b => lamsE a ++ lamsE b
  | .un _ a => lamsE a
  | .cmp _ a b => lamsE a ++ lamsE b
  | .cmp2 _ _ a b c => lamsE a ++ (lamsE b ++ lamsE c)
  | .and a b => lamsE a ++ lamsE b
  | .or a b => lamsE a ++ lamsE b
  | .not a => lamsE a
  | .ite a b c => lamsE a ++ (lamsE b ++ lamsE c)
  | .ix a b => lamsE a ++ lamsE b
  | .sl a b c => lamsE a ++ (lamsE b ++ lamsE c)
  | .call _ a => lamsE a
  | .callK _ _ _ a b _ => lamsE a ++ lamsE b
  | .callL _ a g _ L => (g, L) :: lamsE a
  | .app _ a => lamsE a
  | .new _ _ a => lamsE a
  | .att a _ => lamsE a
  | .blt _ a => lamsE a
  | .mth _ a b => lamsE a ++ lamsE b
  | .mthM _ _ a => lamsE a
  | .comp e _ _ _ s c _ => lamsE e ++ (lamsE s ++ lamsE c)
  | .fstr a => lamsE a
  | .fv a => lamsE a
  | _ => []
def LamsIn (c : SC) (e : E) : Prop := ∀ p ∈ lamsE e, c.lam p.1 = some p.2
/-- what the whole text gives -/
structure GF (c : SC) (T : Tab) (P : PI) (call : Call) (m : Nat) : Prop where
  cf : CF c
  ck : ClsOk c T.kwT call m P
  fldN : ∀ f k, idx T.flds f = some k → c.fldN k = f
  consts : ∀ x d, T.consts.lookup x = some d → ∃ v u, c.mg x = some u ∧ L2.RelV v u ∧ ∀ H, Rp c H v d
  defs : ∀ x k, T.defs.lookup x = some k → c.mg x = some (.ref (c.fnA k)) ∧ c.isDef k = true ∧ ∃ ps, DefOk c T.kwT call m k ps
  clss : ∀ x C f, T.clss.lookup x = some (C, f) → MkOk c T.kwT call m C f x
  blts : ∀ x, T.blts.contains x = true → c.mg x = none
/-- where an expression stands -/
structure Ctx (c : SC) (N : List Str) (sc : Scope) (n m : Nat) (X : Cx) (W : WX) : Prop where
  xc : XC c N sc n X
  hm : m + 1 ≤ n
  hx : PassW X W
theorem visB_ok {sc : Scope} {x : Str} (h : visB sc x = true) : Vis sc x := by
  unfold visB at h
  split at h
  · rename_i e; exact .inl e
  · rename_i e; exact .inr (.inl e)
  · rename_i e; exact .inr (.inr e)
  · cases h
theorem globB_ok {sc : Scope} {x : Str} (h : globB sc x = true) : sc.names.lookup x = some .globalImplicit := by
  unfold globB at h
  split at h
  · rename_i e; exact e
  · cases h
theorem nmOk_ok {x : Str} (h : nmOk x = true) : (x == ("__debug__" : Str)) = false ∧ (x == ("__classdict__" : Str)) = false ∧ (x == ("__name__" : Str)) = false := by
  unfold nmOk at h
  simp only [Bool.and_eq_true, Bool.not_eq_true'] at h
  exact ⟨h.1.1, h.1.2, h.2⟩
theorem idx_ok : ∀ {l : List Str} {x : Str} {i : Nat}, idx l x = some i → l[i]? = some x
  | [], _, _, h => by cases h
  | y :: r, x, i, h => by
    unfold idx at h
    split at h
    · rename_i e; cases h; rw [e]; rfl
    · cases e : idx r x with
      | none => rw [e] at h; cases h
      | some j => rw [e] at h; cases h; simpa using idx_ok e
theorem boot_blt {x : Str} {b : Bl} (h : bltOf x = some b) : bootBuiltins x = some (blV b) ∧ ∀ t, b ≠ .isi t := by
  unfold bltOf at h
  by_cases e : x = "len"
  · rw [if_pos e] at h
    cases h
    subst e
    exact ⟨rfl, fun t z => by cases z⟩
  rw [if_neg e] at h
  clear e
  by_cases e : x = "abs"
  · rw [if_pos e] at h
    cases h
    subst e
    exact ⟨rfl, fun t z => by cases z⟩
  rw [if_neg e] at h
  clear e
  by_cases e : x = "int"
  · rw [if_pos e] at h
    cases h
    subst e
    exact ⟨rfl, fun t z => by cases z⟩
  rw [if_neg e] at h
  clear e
  by_cases e : x = "min"
  · rw [if_pos e] at h
    cases h
    subst e
    exact ⟨rfl, fun t z => by cases z⟩
  rw [if_neg e] at h
  clear e
  by_cases e : x = "max"
  · rw [if_pos e] at h
    cases h
    subst e
    exact ⟨rfl, fun t z => by cases z⟩
  rw [if_neg e] at h
  clear e
  by_cases e : x = "sum"
  · rw [if_pos e] at h
    cases h
    subst e
    exact ⟨rfl, fun t z => by cases z⟩
  rw [if_neg e] at h
  clear e
  by_cases e : x = "all"
  · rw [if_pos e] at h
    cases h
    subst e
    exact ⟨rfl, fun t z => by cases z⟩
  rw [if_neg e] at h
  clear e
  by_cases e : x = "any"
  · rw [if_pos e] at h
    cases h
    subst e
    exact ⟨rfl, fun t z => by cases z⟩
  rw [if_neg e] at h
  clear e
  by_cases e : x = "sorted"
  · rw [if_pos e] at h
    cases h
    subst e
    exact ⟨rfl, fun t z => by cases z⟩
  rw [if_neg e] at h
  clear e
  by_cases e : x = "list"
  · rw [if_pos e] at h
    cases h
    subst e
    exact ⟨rfl, fun t z => by cases z⟩
  rw [if_neg e] at h
  clear e
  by_cases e : x = "tuple"
  · rw [if_pos e] at h
    cases h
    subst e
    exact ⟨rfl, fun t z => by cases z⟩
  rw [if_neg e] at h
  clear e
  by_cases e : x = "str"
  · rw [if_pos e] at h
    cases h
    subst e
    exact ⟨rfl, fun t z => by cases z⟩
  rw [if_neg e] at h
  clear e
  by_cases e : x = "divmod"
  · rw [if_pos e] at h
    cases h
    subst e
    exact ⟨rfl, fun t z => by cases z⟩
  rw [if_neg e] at h
  clear e
  cases h
section
variable {X : Cx} {c : SC} {b : Bs} {W : WX} {N : List Str} {sc : Scope} {n m : Nat} {T : Tab} {P : PI} {call : Call}
theorem LamsIn.cons {a r : E} (h : LamsIn c (.cons a r)) : LamsIn c a ∧ LamsIn c r := ⟨fun p hp => h p (List.mem_append_left _ hp), fun p hp => h p (List.mem_append_right _ hp)⟩
theorem lams2 {l r : List (Nat × LI)} (h : ∀ p ∈ l ++ r, c.lam p.1 = some p.2) : (∀ p ∈ l, c.lam p.1 = some p.2) ∧ ∀ p ∈ r, c.lam p.1 = some p.2 := ⟨fun p hp => h p (List.mem_append_left _ hp), fun p hp => h p (List.mem_append_right _ hp)⟩
/-- what is known of the parts -/
def Snd (c : SC) (b : Bs) (W : WX) (X : Cx) (P : PI) (call : Call) (f : Expr → Option E) : Prop := ∀ e x, f e = some x → LamsIn c x → FD c b W X e (den P call x)
theorem mapE_ok {f : Expr → Option E} (hf : Snd c b W X P call f) : ∀ {es : List Expr} {l : E}, mapE f es = some l → LamsIn c l → es.all notStar = true → PA X es (tFL c b W (den P call l).l)
  | [], l, h, _, _ => by
    cases h
    exact fa_nil
  | e :: es, l, h, hl, hs => by
    unfold mapE at h
    split at h
    · rename_i a r e1 e2
      cases h
      rw [List.all_cons, Bool.and_eq_true] at hs
      exact fa_cons (hf e a e1 hl.cons.1).v (mapE_ok hf e2 hl.cons.2 hs.2) (star_cons hs.1)
    · cases h
theorem mapK_ok {f : Expr → Option E} (hf : Snd c b W X P call f) : ∀ {es : List Keyword} {l : E}, mapK f es = some l → LamsIn c l → PK X es (tFL c b W (den P call l).l)
  | [], l, h, _ => by
    cases h
    exact fk_nil
  | ⟨nm, e, kp⟩ :: es, l, h, hl => by
    unfold mapK at h
    split at h
    · rename_i a r e1 e2
      cases h
      exact fk_cons (hf e a e1 hl.cons.1).v (mapK_ok hf e2 hl.cons.2)
    · cases h
theorem mapF_ok {f : Expr → Option E} (hf : Snd c b W X P call f) : ∀ {es : List Expr} {l : E}, mapF f es = some l → LamsIn c l → FJ c b W X es (den P call l)
  | [], l, h, _ => by
    cases h
    exact fj_nil
  | e :: es, l, h, hl => by
    unfold mapF at h
    split at h
    · rename_i e0; cases e0
    · rename_i y k p es' e0
      cases e0
      split at h
      · rename_i r e2
        cases h
        exact fj_str (mapF_ok hf e2 hl.cons.2)
      · cases h
    · rename_i e' p es' e0
      cases e0
      split at h
      · rename_i a r e1 e2
        cases h
        exact fj_fv (hf _ a e1 hl.cons.1) (mapF_ok hf e2 hl.cons.2)
      · cases h
    · cases h
/-- and, or -/
structure FW (c : SC) (b : Bs) (W : WX) (X : Cx) (e : Expr) (d : Den) : Prop where
  v : PE X e (tF c b W d.v)
  w : PW X e (tFB c b W d.t)
theorem mapAnd_ok {f : Expr → Option E} (hf : Snd c b W X P call f) {pos : Pos} : ∀ {es : List Expr} {l : E}, mapAnd f es = some l → LamsIn c l → FW c b W X (.BoolOp .And es pos) (den P call l)
  | [], l, h, _ => by cases h
  | [e], l, h, hl => by
    have h1 := hf e l h hl
    exact ⟨pe_one h1.v, pw_and1 h1.t⟩
  | e :: e2 :: es, l, h, hl => by
    have h : (match f e, mapAnd f (e2 :: es) with
      | some x, some y => some (E.and x y)
      | _, _ => none) = some l := h
    split at h
    · rename_i x y h1 h2
      cases h
      obtain ⟨l1, l2⟩ := lams2 hl
      have a1 := hf e x h1 l1
      have a2 := mapAnd_ok hf (pos := pos) h2 l2
      exact ⟨fe_and a1 a2.v, ft_and a1 a2.w⟩
    · cases h
theorem mapOr_ok {f : Expr → Option E} (hf : Snd c b W X P call f) {pos : Pos} : ∀ {es : List Expr} {l : E}, mapOr f es = some l → LamsIn c l → FW c b W X (.BoolOp .Or es pos) (den P call l)
  | [], l, h, _ => by cases h
  | [e], l, h, hl => by
    have h1 := hf e l h hl
    exact ⟨pe_one h1.v, pw_or1 h1.t⟩
  | e :: e2 :: es, l, h, hl => by
    have h : (match f e, mapOr f (e2 :: es) with
      | some x, some y => some (E.or x y)
      | _, _ => none) = some l := h
    split at h
    · rename_i x y h1 h2
      cases h
      obtain ⟨l1, l2⟩ := lams2 hl
      have a1 := hf e x h1 l1
      have a2 := mapOr_ok hf (pos := pos) h2 l2
      exact ⟨fe_or a1 a2.v, ft_or a1 a2.w⟩
    · cases h
theorem optE_ok {f : Expr → Option E} (hf : Snd c b W X P call f) {e : Option Expr} {l : E} (h : optE f e = some l) (hl : LamsIn c l) : PartOk c b W X e (partOf (isNil l) (den P call l)) := by
  cases e with
  | none => cases h; exact part_none
  | some e =>
    unfold optE at h
    dsimp only at h
    split at h
    · cases h
    · rename_i hn
      have e1 : isNil l = false := by
        cases l <;> first | rfl | exact absurd h hn
      rw [e1]
      exact part_some (hf e l h hl).v
/-! ### the blocks of comprehensions -/
theorem blk_ctx (K : Ctx c N sc n m X W) {scope : Scope} {s : Shared} {H : Hp} {C : Addr} {cl : List (Str × Addr)} {fp : List Addr} : Ctx c N (relS scope sc) n m (X.blk s H scope (compEnvC scope cl C X.env) fp) W0 := by
  refine ⟨⟨K.xc.prog, K.xc.w, K.xc.K, K.xc.mg, K.xc.base, K.xc.nm, K.xc.nd, ?_, K.xc.calm, K.xc.room, PassesOwn.never⟩, K.hm, fun σ pins H s e s' I z => ?_⟩
  · show relS scope X.env.scope = _
    rw [K.xc.sc]
  · obtain ⟨_, _, _, _, _, _, _, _, _, _, _, _, z⟩ := z
    exact z.elim
end
end Fl
set_option Elab.async false
set_option linter.all false
set_option maxRecDepth 100000
set_option maxHeartbeats 8000000
/-! Layer F, part 21: the translation is sound: expressions, all. -/
namespace Fl
open PySem PySem.Spec PyProof.Rows L2 NdefX LamX
section
variable {X : Cx} {c : SC} {b : Bs} {W : WX} {N : List Str} {sc : Scope} {n m : Nat} {T : Tab} {P : PI} {call : Call}
theorem fd_const (K : Ctx c N sc n m X W) {v : Const} {d : D} {j : Nat} {p : Pos} (h : ofConst v = some d) : FD c b W X (.Constant v j p) (den P call (.k d)) := by
  cases v <;> cases h
  · exact fd_plain K.xc (fe_c pe_non fun H => .non) fun _ => rfl
  · exact fd_plain K.xc (fe_c pe_bl fun H => .bl _) fun _ => rfl
  · exact fd_plain K.xc (fe_c pe_int fun H => .int _) fun _ => rfl
  · exact fd_plain K.xc (fe_c pe_str fun H => .str _) fun _ => rfl
theorem fd_var (K : Ctx c N sc n m X W) {x : Str} {i : Nat} {p : Pos} (hi : idx N x = some i) (hv : visB sc x = true) (hn : nmOk x = true) : FD c b W X (.Name x p) (den P call (.v i)) :=
  fd_plain K.xc (fe_var K.xc (idx_ok hi) (visB_ok hv) (nmOk_ok hn).1 (nmOk_ok hn).2.1 P call) fun _ => rfl
theorem fd_glob (G : GF c T P call m) (K : Ctx c N sc n m X W) {x : Str} {p : Pos} {z : E} (hg : globB sc x = true) (hn : nmOk x = true) (h : (match T.consts.lookup x with
        | some d => some (E.k d)
        | none => (match T.defs.lookup x with
          | some k => some (.k (.fn k []))
          | none => none)) = some z) : FD c b W X (.Name x p) (den P call z) := by
  have hg' : Gl X x := by show X.env.scope.names.lookup x = _; rw [K.xc.sc]; exact globB_ok hg
  split at h
  · rename_i d e
    cases h
    obtain ⟨v, u, hm, ru, hr⟩ := G.consts x d e
    exact fd_plain K.xc (fe_c (pe_glob hg' (by rw [K.xc.mg]; exact hm) ru (nmOk_ok hn).1) hr) fun _ => rfl
  · split at h
    · rename_i k e
      cases h
      obtain ⟨hm, hd, _⟩ := G.defs x k e
      exact fd_plain K.xc (fe_c (v := .ref (c.fnA k)) (pe_glob hg' (by rw [K.xc.mg]; exact hm) rfl (nmOk_ok hn).1) fun H => .fnG hd) fun _ => rfl
    · cases h
theorem ty_pe (G : GF c T P call m) (K : Ctx c N sc n m X W) {y : Str} {t : Ty} {p : Pos} (h : tyOf T y = some t) (hg : globB sc y = true) (hn : nmOk y = true) : PE X (.Name y p) (tC (Fl.tyV c t)) ∧ ∀ C, t = .cls C → c.isCls C = true := by
  have hg' : Gl X y := by show X.env.scope.names.lookup y = _; rw [K.xc.sc]; exact globB_ok hg
  have n1 : y ≠ "__name__" := fun z => by have := (nmOk_ok hn).2.2; rw [z] at this; cases this
  have nd := (nmOk_ok hn).1
  unfold tyOf at h
  split at h
  · rename_i C f e
    cases h
    have M := G.clss y C f e
    exact ⟨pe_glob hg' (by rw [K.xc.mg]; exact M.mg) rfl nd, fun C' z => by cases z; exact M.isC⟩
  · by_cases hb : T.blts.contains y = true
    · rw [if_pos hb] at h
      have hm : X.mg y = none := by rw [K.xc.mg]; exact G.blts y hb
      by_cases e : y = "int"
      · rw [if_pos e] at h; cases h; subst e; exact ⟨pe_bltn hg' hm rfl rfl, fun C z => by cases z⟩
      rw [if_neg e] at h
      clear e
      by_cases e : y = "str"
      · rw [if_pos e] at h; cases h; subst e; exact ⟨pe_bltn hg' hm rfl rfl, fun C z => by cases z⟩
      rw [if_neg e] at h
      clear e
      by_cases e : y = "bool"
      · rw [if_pos e] at h; cases h; subst e; exact ⟨pe_bltn hg' hm rfl rfl, fun C z => by cases z⟩
      rw [if_neg e] at h
      clear e
      by_cases e : y = "tuple"
      · rw [if_pos e] at h; cases h; subst e; exact ⟨pe_bltn hg' hm rfl rfl, fun C z => by cases z⟩
      rw [if_neg e] at h
      clear e
      by_cases e : y = "list"
      · rw [if_pos e] at h; cases h; subst e; exact ⟨pe_bltn hg' hm rfl rfl, fun C z => by cases z⟩
      rw [if_neg e] at h
      clear e
      by_cases e : y = "dict"
      · rw [if_pos e] at h; cases h; subst e; exact ⟨pe_bltn hg' hm rfl rfl, fun C z => by cases z⟩
      rw [if_neg e] at h
      cases h
    · rw [if_neg hb] at h; cases h
theorem ckOf_vis {x : Str} {i : Nat} (h : ckOf T N sc x = .app i) : nmOk x = true ∧ visB sc x = true ∧ idx N x = some i := by
  unfold ckOf at h
  by_cases h1 : nmOk x = true
  · rw [if_pos h1] at h
    by_cases h2 : visB sc x = true
    · rw [if_pos h2] at h
      cases e : idx N x with
      | none => rw [e] at h; cases h
      | some j => rw [e] at h; cases h; exact ⟨h1, h2, rfl⟩
    · rw [if_neg h2] at h
      repeat' split at h
      all_goals cases h
  · rw [if_neg h1] at h; cases h
theorem ckOf_glob {x : Str} {k : CK} (h : ckOf T N sc x = k) (ha : ∀ i, k ≠ .app i) (hn : k ≠ .no) : nmOk x = true ∧ globB sc x = true ∧ (match T.defs.lookup x with
      | some k => CK.df k
      | none => (match T.clss.lookup x with
        | some (C, f) => .mk C f
        | none => if T.blts.contains x = true then (if x = "isinstance" then .isi else (match bltOf x with
          | some b => .blt b
          | none => .no)) else .no)) = k := by
  unfold ckOf at h
  by_cases h1 : nmOk x = true
  · rw [if_pos h1] at h
    by_cases h2 : visB sc x = true
    · rw [if_pos h2] at h
      split at h
      · exact absurd h.symm (ha _)
      · exact absurd h.symm hn
    · rw [if_neg h2] at h
      by_cases h3 : globB sc x = true
      · rw [if_pos h3] at h
        exact ⟨h1, h3, h⟩
      · rw [if_neg h3] at h; exact absurd h.symm hn
  · rw [if_neg h1] at h; exact absurd h.symm hn
theorem ck_df (G : GF c T P call m) {x : Str} {k : Nat} (h : ckOf T N sc x = .df k) : nmOk x = true ∧ globB sc x = true ∧ c.mg x = some (.ref (c.fnA k)) ∧ ∃ ps, DefOk c T.kwT call m k ps := by
  obtain ⟨h1, h2, h3⟩ := ckOf_glob h (fun i z => by cases z) (fun z => by cases z)
  split at h3
  · rename_i k' e
    cases h3
    obtain ⟨g1, g2, g3⟩ := G.defs x _ e
    exact ⟨h1, h2, g1, g3⟩
  · repeat' split at h3
    all_goals cases h3
theorem ck_mk (G : GF c T P call m) {x : Str} {C f : Nat} (h : ckOf T N sc x = .mk C f) : nmOk x = true ∧ globB sc x = true ∧ MkOk c T.kwT call m C f x := by
  obtain ⟨h1, h2, h3⟩ := ckOf_glob h (fun i z => by cases z) (fun z => by cases z)
  split at h3
  · cases h3
  · split at h3
    · rename_i C' f' e
      cases h3
      exact ⟨h1, h2, G.clss x _ _ e⟩
    · repeat' split at h3
      all_goals cases h3
theorem ck_blt (G : GF c T P call m) {x : Str} {k : Bl} (h : ckOf T N sc x = .blt k) : nmOk x = true ∧ globB sc x = true ∧ c.mg x = none ∧ bltOf x = some k := by
  obtain ⟨h1, h2, h3⟩ := ckOf_glob h (fun i z => by cases z) (fun z => by cases z)
  split at h3
  · cases h3
  · split at h3
    · cases h3
    · split at h3
      · rename_i hb
        split at h3
        · cases h3
        · split at h3
          · rename_i e; cases h3; exact ⟨h1, h2, G.blts x hb, e⟩
          · cases h3
      · cases h3
theorem ck_isi (G : GF c T P call m) {x : Str} (h : ckOf T N sc x = .isi) : globB sc x = true ∧ c.mg x = none ∧ x = "isinstance" := by
  obtain ⟨h1, h2, h3⟩ := ckOf_glob h (fun i z => by cases z) (fun z => by cases z)
  split at h3
  · cases h3
  · split at h3
    · cases h3
    · split at h3
      · rename_i hb
        split at h3
        · rename_i e; exact ⟨h2, G.blts x hb, e⟩
        · split at h3 <;> cases h3
      · cases h3
theorem len1 {α : Type} {l : List α} (h : l.length = 1) : ∃ a, l = [a] := by
  match l, h with
  | [a], _ => exact ⟨a, rfl⟩
theorem len2 {α : Type} {l : List α} (h : l.length = 2) : ∃ a a2, l = [a, a2] := by
  match l, h with
  | [a, a2], _ => exact ⟨a, a2, rfl⟩
/-- a written iteration -/
theorem itOf_ok (G : GF c T P call m) (K : Ctx c N sc n m X W) {f : Expr → Option E} (hf : Snd c b W X P call f) {tg it : Expr} {k : Itk} {as : List Expr} {src : E} (h : itOf T sc (isTupT tg) it = some (k, as)) (hs : mapE f as = some src) (hl : LamsIn c src) (hns : as.all notStar = true) :
    L2.PI X tg it (tFI c b W fun ρ => (((den P call src).l ρ).bind toDs).bind fun ds ρ1 => R.opt (iter k ds) ρ1) := by
  have one : ∀ {e : Expr}, as = [e] → ∃ d : Den, FD c b W X e d ∧ (den P call src).l = L1 d.v := fun {e} he => by
    subst he
    unfold mapE at hs
    split at hs
    · rename_i a r e1 e2
      cases hs
      cases e2
      exact ⟨_, hf e a e1 hl.cons.1, rfl⟩
    · cases hs
  have two : ∀ {e e2 : Expr}, as = [e, e2] → ∃ d d2 : Den, FD c b W X e d ∧ FD c b W X e2 d2 ∧ (den P call src).l = L2' d.v d2.v := fun {e e2} he => by
    subst he
    unfold mapE at hs
    split at hs
    · rename_i a r e1 e3
      cases hs
      unfold mapE at e3
      split at e3
      · rename_i a2 r2 e4 e5
        cases e3
        cases e5
        exact ⟨_, _, hf e a e1 hl.cons.1, hf e2 a2 e4 hl.cons.2.cons.1, rfl⟩
      · cases e3
    · cases hs
  have seq : ∀ {e : Expr}, k = .seq → as = [e] → e = it → L2.PI X tg it (tFI c b W fun ρ => (((den P call src).l ρ).bind toDs).bind fun ds ρ1 => R.opt (iter k ds) ρ1) := fun {e} hk he hi => by
    obtain ⟨d, hd, e1⟩ := one he
    subst hk hi
    rw [e1]
    exact pi_seq K.xc hd.v
  unfold itOf at h
  split at h
  · rename_i x p as' pos
    by_cases h1 : x = "range"
    · rw [if_pos h1] at h
      subst h1
      split at h
      · rename_i hh
        cases h
        obtain ⟨hb, hg, hn⟩ := hh
        have hm := G.blts _ hb
        rcases hn with hn | hn
        · obtain ⟨a, rfl⟩ := len1 hn
          obtain ⟨d, hd, e1⟩ := one rfl
          rw [e1]
          rw [List.all_cons, Bool.and_eq_true] at hns
          exact pi_rng1 K.xc (globB_ok hg) hm hns.1 (by rw [← e1]; exact mapE_ok hf hs hl (by rw [List.all_cons, hns.1]; rfl))
        · obtain ⟨a, a2, rfl⟩ := len2 hn
          obtain ⟨d, d2, hd, hd2, e1⟩ := two rfl
          rw [e1]
          have hns' := hns
          rw [List.all_cons, List.all_cons, Bool.and_eq_true, Bool.and_eq_true] at hns
          exact pi_rng2 K.xc (globB_ok hg) hm hns.1 hns.2.1 (by rw [← e1]; exact mapE_ok hf hs hl hns')
      · cases h
    rw [if_neg h1] at h
    by_cases h2 : x = "enumerate"
    · rw [if_pos h2] at h
      subst h2
      split at h
      · rename_i hh
        cases h
        obtain ⟨ht, hb, hg, hn⟩ := hh
        have hm := G.blts _ hb
        obtain ⟨a, rfl⟩ := len1 hn
        obtain ⟨d, hd, e1⟩ := one rfl
        rw [e1]
        rw [List.all_cons, Bool.and_eq_true] at hns
        cases tg with
        | Tuple es kk tp => exact pi_enu K.xc (globB_ok hg) hm hns.1 (by rw [← e1]; exact mapE_ok hf hs hl (by rw [List.all_cons, hns.1]; rfl))
        | _ => cases ht
      · cases h
    rw [if_neg h2] at h
    by_cases h3 : x = "zip"
    · rw [if_pos h3] at h
      subst h3
      split at h
      · rename_i hh
        cases h
        obtain ⟨ht, hb, hg, hn⟩ := hh
        have hm := G.blts _ hb
        obtain ⟨a, a2, rfl⟩ := len2 hn
        obtain ⟨d, d2, hd, hd2, e1⟩ := two rfl
        rw [e1]
        have hns' := hns
        rw [List.all_cons, List.all_cons, Bool.and_eq_true, Bool.and_eq_true] at hns
        cases tg with
        | Tuple es kk tp => exact pi_zp K.xc (globB_ok hg) hm hns.1 hns.2.1 (by rw [← e1]; exact mapE_ok hf hs hl hns')
        | _ => cases ht
      · cases h
    rw [if_neg h3] at h
    cases h
    exact seq rfl rfl rfl
  · cases h
    exact seq rfl rfl rfl
end
end Fl
set_option Elab.async false
set_option linter.all false
set_option maxRecDepth 100000
set_option maxHeartbeats 16000000
/-! Layer F, part 22: the translation is sound: targets, expressions. -/
namespace Fl
open PySem PySem.Spec PyProof.Rows L2 NdefX LamX
section
variable {X : Cx} {c : SC} {b : Bs} {W : WX} {N : List Str} {sc : Scope} {n m : Nat} {T : Tab} {P : PI} {call : Call}
theorem names_pgs (xc : XC c N sc n X) : ∀ {es : List Expr} {tg : List Nat}, (∀ x p, Expr.Name x p ∈ es → Loc sc x ∧ (X.fn x = true ∨ sc.names.lookup x = some .local)) → es.all isNameE = true → idxs N (namesE es) = some tg →
    PGs X es (gN tg) ∧ (assignEach es X.env).length = tg.length ∧ (assignEach es X.env).findIdx? (·.1) = none
  | [], tg, _, _, h => by
    cases h
    exact ⟨pgs_nil, rfl, rfl⟩
  | e :: es, tg, hl, hn, h => by
    rw [List.all_cons, Bool.and_eq_true] at hn
    cases e with
    | Name x p =>
      have h : (match idx N x, idxs N (namesE es) with
        | some i, some is => some (i :: is)
        | _, _ => none) = some tg := h
      split at h
      · rename_i i is h1 h2
        cases h
        obtain ⟨g1, g2, g3⟩ := names_pgs xc (fun x p hp => hl x p (List.mem_cons_of_mem _ hp)) hn.2 h2
        obtain ⟨l1, l2⟩ := hl x p List.mem_cons_self
        have pg : PG X (.Name x p) (gName i) := pg_name (by rw [xc.nm]; exact xc.nd) (by rw [xc.nm]; exact idx_ok h1) (by rw [xc.sc]; exact l1) (by rw [xc.sc]; exact l2)
        refine ⟨pgs_cons pg g1 rfl, ?_, ?_⟩
        · show (assignEach es X.env).length + 1 = _
          rw [g2]
          rfl
        · show List.findIdx? (·.1) ((false, assign (.Name x p) X.env) :: assignEach es X.env) = none
          rw [List.findIdx?_cons, g3]
          rfl
      · cases h
    | _ => cases hn.1
theorem allLoc_ok {sc : Scope} : ∀ {es : List Expr}, allLoc sc es = true → es.all isNameE = true ∧ ∀ x p, Expr.Name x p ∈ es → localB sc x = true
  | [], _ => ⟨rfl, fun _ _ h => by cases h⟩
  | e :: es, h => by
    cases e with
    | Name x p =>
      have h : (localB sc x && allLoc sc es) = true := h
      rw [Bool.and_eq_true] at h
      obtain ⟨g1, g2⟩ := allLoc_ok h.2
      refine ⟨by rw [List.all_cons, g1]; rfl, fun y q hm => ?_⟩
      rcases List.mem_cons.mp hm with z | z
      · cases z; exact h.1
      · exact g2 y q z
    | _ => cases h
theorem allLocal_ok {sc : Scope} : ∀ {es : List Expr}, allLocal sc es = true → es.all isNameE = true ∧ ∀ x p, Expr.Name x p ∈ es → sc.names.lookup x = some .local
  | [], _ => ⟨rfl, fun _ _ h => by cases h⟩
  | e :: es, h => by
    cases e with
    | Name x p =>
      have h : (decide (sc.names.lookup x = some .local) && allLocal sc es) = true := h
      rw [Bool.and_eq_true] at h
      obtain ⟨g1, g2⟩ := allLocal_ok h.2
      refine ⟨by rw [List.all_cons, g1]; rfl, fun y q hm => ?_⟩
      rcases List.mem_cons.mp hm with z | z
      · cases z; exact of_decide_eq_true h.1
      · exact g2 y q z
    | _ => cases h
theorem localB_ok {sc : Scope} {x : Str} (h : localB sc x = true) : Loc sc x := by
  unfold localB at h
  rw [Bool.or_eq_true] at h
  rcases h with h | h
  · exact .inl (of_decide_eq_true h)
  · exact .inr (of_decide_eq_true h)
theorem tgt_ok (xc : XC c N sc n X) {e : Expr} {tg : List Nat} {many : Bool} (h : tgt N sc e = some (tg, many)) : PG X e (gOf c.K tg many) := by
  cases e with
  | Name x p =>
    have h : (if decide (sc.names.lookup x = some .local) = true then (idx N x).map fun i => ([i], false) else none) = some (tg, many) := h
    split at h
    · rename_i hd
      cases e : idx N x with
      | none => rw [e] at h; cases h
      | some i =>
        rw [e] at h
        cases h
        have hd := of_decide_eq_true hd
        exact pg_name (by rw [xc.nm]; exact xc.nd) (by rw [xc.nm]; exact idx_ok e) (by rw [xc.sc]; exact .inl hd) (by rw [xc.sc]; exact .inr hd)
    · cases h
  | Tuple es k p =>
    have h : (if allLocal sc es = true then (idxs N (namesE es)).map fun is => (is, true) else none) = some (tg, many) := h
    split at h
    · rename_i hl
      cases e : idxs N (namesE es) with
      | none => rw [e] at h; cases h
      | some is =>
        rw [e] at h
        cases h
        obtain ⟨a1, a2⟩ := allLocal_ok hl
        obtain ⟨g1, g2, g3⟩ := names_pgs xc (fun x p hp => ⟨.inl (a2 x p hp), .inr (a2 x p hp)⟩) a1 e
        have := pg_tup (pos := p) (k := k) xc.calm g1 g2 g3
        rw [xc.K] at this
        exact this
    · cases h
  | _ => cases h
theorem tgtS_ok (xc : XC c N sc n X) (hfn : ∀ x, X.fn x = true) {e : Expr} {tg : List Nat} {many : Bool} (h : tgtS N sc e = some (tg, many)) : PG X e (gOf c.K tg many) := by
  cases e with
  | Name x p =>
    have h : (if localB sc x = true then (idx N x).map fun i => ([i], false) else none) = some (tg, many) := h
    split at h
    · rename_i hd
      cases e : idx N x with
      | none => rw [e] at h; cases h
      | some i =>
        rw [e] at h
        cases h
        exact pg_name (by rw [xc.nm]; exact xc.nd) (by rw [xc.nm]; exact idx_ok e) (by rw [xc.sc]; exact localB_ok hd) (.inl (hfn x))
    · cases h
  | Tuple es k p =>
    have h : (if allLoc sc es = true then (idxs N (namesE es)).map fun is => (is, true) else none) = some (tg, many) := h
    split at h
    · rename_i hl
      cases e : idxs N (namesE es) with
      | none => rw [e] at h; cases h
      | some is =>
        rw [e] at h
        cases h
        obtain ⟨a1, a2⟩ := allLoc_ok hl
        obtain ⟨g1, g2, g3⟩ := names_pgs xc (fun x p hp => ⟨localB_ok (a2 x p hp), .inl (hfn x)⟩) a1 e
        have := pg_tup (pos := p) (k := k) xc.calm g1 g2 g3
        rw [xc.K] at this
        exact this
    · cases h
  | _ => cases h
theorem ifs_ok {f : Expr → Option E} (hf : Snd c b W X P call f) {ifs : List Expr} {x : E} (h : ifsE f ifs = some x) (hl : LamsIn c x) : PTs X ifs (tFB c b W (den P call x).t) := by
  match ifs, h with
  | [], h =>
    cases h
    exact ⟨fun pins s σ H Q I hq => pts_nil.run pins s σ H Q I (by
      obtain ⟨ρ, r, hq⟩ := hq
      exact hq true H r (.refl ..) rfl)⟩
  | [t], h =>
    have h : (match f t with
      | some .nil => none
      | r => r) = some x := h
    split at h
    · cases h
    · exact pts_one (hf t x h hl).t
  | _ :: _ :: _, h => cases h
/-- what a lambda as the last argument, and a call of a local name give -/
structure LamF (c : SC) (b : Bs) (W : WX) (X : Cx) (N : List Str) (sc : Scope) (T : Tab) (P : PI) (call : Call) (lam : Option Str) : Prop where
  lmk : ∀ {x : Str} {p pos lpos : Pos} {l : List Expr} {params : Arguments} {body : Expr} {scope : Scope} {q : Str} {k : Nat} {a : E} {cs : List Nat}, lam = some q → ckOf T N sc x = .df k → (∃ f, Snd c b W X P call f ∧ mapE f l = some a) → LamsIn c a → l.all notStar = true → lamB sc scope params = true → idxs N (freeOf scope) = some cs →
    c.lam (keyOf lpos) = some ⟨q ++ "<lambda>", params, body, scope, freeOf scope⟩ → FD c b W X (.Call (.Name x p) (l ++ [.Lambda params body scope lpos]) [] pos) (den P call (.callL k a (keyOf lpos) cs ⟨q ++ "<lambda>", params, body, scope, freeOf scope⟩))
  app : ∀ {x : Str} {p pos : Pos} {e : Expr} {es : List Expr} {i : Nat} {a : E}, ckOf T N sc x = .app i → PA X (e :: es) (tFL c b W (den P call a).l) → (e :: es).all notStar = true → FD c b W X (.Call (.Name x p) (e :: es) [] pos) (den P call (.app i a))
theorem splitLast_ok : ∀ {as l : List Expr} {e : Expr}, splitLast as = some (l, e) → as = l ++ [e]
  | [], _, _, h => by cases h
  | [a], _, _, h => by cases h; rfl
  | a :: a2 :: as, l, e, h => by
    have h : (match splitLast (a2 :: as) with
      | some (l, x) => some (a :: l, x)
      | none => none) = some (l, e) := h
    split at h
    · rename_i l' x' h1
      cases h
      rw [splitLast_ok h1]
      rfl
    · cases h
theorem isi_den {a : Den} {t : Ty} : (opL ⟨fun _ => .bad, fun _ => .bad, fun ρ => (a.v ρ).bind fun x ρ1 => R.bind (.ok [] ρ1) fun xs ρ2 => .ok (x :: xs) ρ2⟩ (blt (.isi t))) = opL ⟨fun _ => .bad, fun _ => .bad, fun ρ => (a.v ρ).bind fun x ρ1 => ((den P call .nil).l ρ1).bind fun xs ρ2 => .ok (x :: xs) ρ2⟩ (blt (.isi t)) := rfl
end
end Fl
set_option Elab.async false
set_option linter.all false
set_option maxRecDepth 100000
set_option maxHeartbeats 16000000
/-! Layer F, part 23: the translation is sound: every expression. -/
namespace Fl
open PySem PySem.Spec PyProof.Rows L2 NdefX LamX
section
variable {c : SC} {b : Bs} {N : List Str} {n m : Nat} {T : Tab} {P : PI} {call : Call}
/-- where a lambda may be made: the frame's code object with its table -/
def LamC (c : SC) (b : Bs) (X : Cx) (lam : Option Str) : Prop := ∀ q, lam = some q → b.H0 = X.H_0 ∧ (∀ x, X.fn x = true) ∧ X.env.qual = q ∧ ∃ cc Pt nm, X.env.code = .ref cc ∧ TabB X.base X.mg cc Pt ∧ (Pt, nm) ∈ c.T ∧ (∀ p ∈ c.T, p.1 = Pt → p.2 = nm) ∧ ∀ l k, nm l k = q ++ "<lambda>"
theorem LamC.none {c : SC} {b : Bs} {X : Cx} : LamC c b X none := fun q h => by cases h
theorem trE_ok (G : GF c T P call m) (LF : ∀ {X : Cx} {W : WX} {sc : Scope} {lam : Option Str}, Ctx c N sc n m X W → LamC c b X lam → LamF c b W X N sc T P call lam) :
    ∀ (k : Nat) {X : Cx} {W : WX} {sc : Scope} {lam : Option Str} {e : Expr} {x : E}, Ctx c N sc n m X W → LamC c b X lam → trE T N k sc lam e = some x → LamsIn c x → FD c b W X e (den P call x)
  | 0, _, _, _, _, _, _, _, _, h, _ => by cases h
  | k + 1, X, W, sc, lam, e, x, K, KL, h, hl => by
    have xc := K.xc
    have ih : ∀ {lam : Option Str}, LamC c b X lam → Snd c b W X P call (trE T N k sc lam) := fun KL e x h hl => trE_ok G LF k K KL h hl
    unfold trE at h
    split at h
    · -- constants
      rename_i v j p
      cases e : ofConst v with
      | none => rw [e] at h; cases h
      | some d => rw [e] at h; cases h; exact fd_const K e
    · -- names
      rename_i y p
      by_cases h1 : nmOk y = true
      · rw [if_pos h1] at h
        by_cases h2 : visB sc y = true
        · rw [if_pos h2] at h
          cases e : idx N y with
          | none => rw [e] at h; cases h
          | some i => rw [e] at h; cases h; exact fd_var K e h2 h1
        · rw [if_neg h2] at h
          by_cases h3 : globB sc y = true
          · rw [if_pos h3] at h
            exact fd_glob G K h3 h1 h
          · rw [if_neg h3] at h; cases h
      · rw [if_neg h1] at h; cases h
    · -- tuples
      rename_i es j p
      by_cases h1 : es.all notStar = true
      · rw [if_pos h1] at h
        cases e : mapE (trE T N k sc lam) es with
        | none => rw [e] at h; cases h
        | some l => rw [e] at h; cases h; exact fd_tup xc (mapE_ok (ih KL) e hl h1)
      · rw [if_neg h1] at h; cases h
    · rename_i es p
      by_cases h1 : es.all notStar = true
      · rw [if_pos h1] at h
        cases e : mapE (trE T N k sc lam) es with
        | none => rw [e] at h; cases h
        | some l => rw [e] at h; cases h; exact fd_lst xc (mapE_ok (ih KL) e hl h1)
      · rw [if_neg h1] at h; cases h
    · cases h; exact fd_dnew xc
    · -- operators
      rename_i a op d p
      split at h
      · rename_i y z e1 e2
        cases h
        obtain ⟨l1, l2⟩ := lams2 hl
        exact fd_bin xc (ih KL a y e1 l1) (ih KL d z e2 l2)
      · cases h
    · rename_i op a p
      split at h
      · rename_i y e1
        by_cases ho : op = .Not
        · rw [if_pos ho] at h
          cases h
          subst ho
          exact fd_not (ih KL a y e1 hl)
        · rw [if_neg ho] at h
          cases h
          exact fd_un xc ho (ih KL a y e1 hl)
      · cases h
    · rename_i es p
      have q := mapAnd_ok (pos := p) (ih KL) h hl
      exact ⟨q.v, q.w.pt⟩
    · rename_i es p
      have q := mapOr_ok (pos := p) (ih KL) h hl
      exact ⟨q.v, q.w.pt⟩
    · rename_i z a d p
      split at h
      · rename_i y1 y2 y3 e1 e2 e3
        cases h
        obtain ⟨l1, l2⟩ := lams2 hl
        obtain ⟨l2, l3⟩ := lams2 l2
        exact fd_ite (ih KL z y1 e1 l1) (ih KL a y2 e2 l2) (ih KL d y3 e3 l3)
      · cases h
    · -- comparisons
      rename_i a op d p
      split at h
      · rename_i y z e1 e2
        by_cases hs : notSetD d = true
        · rw [if_pos hs] at h
          cases h
          obtain ⟨l1, l2⟩ := lams2 hl
          exact fd_cmp xc G.ck (by have := K.hm; omega) K.hx (ih KL a y e1 l1) (ih KL d z e2 l2) hs
        · rw [if_neg hs] at h; cases h
      · cases h
    · rename_i a op op2 d f p
      split at h
      · rename_i y1 y2 y3 e1 e2 e3
        by_cases hs : notSetD f = true
        · rw [if_pos hs] at h
          cases h
          obtain ⟨l1, l2⟩ := lams2 hl
          obtain ⟨l2, l3⟩ := lams2 l2
          exact fd_cmp2 xc (ih KL a y1 e1 l1) (ih KL d y2 e2 l2) (ih KL f y3 e3 l3) hs
        · rw [if_neg hs] at h; cases h
      · cases h
    · -- slices, subscripts
      rename_i a lo hi p2 p
      split at h
      · rename_i y1 y2 y3 e1 e2 e3
        cases h
        obtain ⟨l1, l2⟩ := lams2 hl
        obtain ⟨l2, l3⟩ := lams2 l2
        exact fd_sl xc (ih KL a y1 e1 l1) (optE_ok (ih KL) e2 l2) (optE_ok (ih KL) e3 l3)
      · cases h
    · rename_i a i p hns
      split at h
      · rename_i y z e1 e2
        by_cases hs : notSlice i = true
        · rw [if_pos hs] at h
          cases h
          obtain ⟨l1, l2⟩ := lams2 hl
          exact fd_ix xc (ih KL a y e1 l1) (ih KL i z e2 l2) (by
            intro o v
            cases i <;> first | rfl | cases hs)
        · rw [if_neg hs] at h; cases h
      · cases h
    · -- attributes
      rename_i o f p
      split at h
      · rename_i y g e1 e2
        by_cases hs : okBase o = true
        · rw [if_pos hs] at h
          cases h
          have q := fd_att (f := g) (pos := p) xc G.cf G.ck K.hm (ih KL o y e1 hl) hs
          rw [G.fldN f g e2] at q
          exact q
        · rw [if_neg hs] at h; cases h
      · cases h
    · rename_i v1 v2 rest p
      cases e : mapF (trE T N k sc lam) (v1 :: v2 :: rest) with
      | none => rw [e] at h; cases h
      | some l => rw [e] at h; cases h; exact fd_fstr xc (mapF_ok (ih KL) e hl)
    · -- comprehensions
      rename_i elt tg it ifs scope p
      split at h
      · rename_i kk as e0
        split at h
        · rename_i src tgs many cc xx e1 e2 e3 e4
          split at h
          · rename_i hh
            cases h
            obtain ⟨h1, h2, h3, h4⟩ := hh
            obtain ⟨l1, l2⟩ := lams2 hl
            obtain ⟨l2, l3⟩ := lams2 l2
            refine fd_comp (own := ownOf N scope) xc (fun i hi => ?_) (itOf_ok G K (ih KL) e0 e1 l2 h4) h1 (fun s H C cl fp => ?_) (fun s H C cl fp => ?_) (fun s H C cl fp => ?_) h2
            · have := List.all_eq_true.mp h3 i hi
              simpa using this
            · exact tgt_ok (blk_ctx K).xc e2
            · exact ifs_ok (fun e x h hl => trE_ok G LF k (blk_ctx K) LamC.none h hl) e3 l3
            · exact (trE_ok G LF k (blk_ctx K) LamC.none e4 l1).v
          · cases h
        · cases h
      · cases h
    · -- calls
      rename_i y p as pos
      split at h
      · rename_i l params body scope lpos es
        split at h
        · rename_i q kk a cs e2 e3 e4
          split at h
          · rename_i hs
            cases h
            have := splitLast_ok es
            subst this
            exact (LF K KL).lmk rfl e2 ⟨_, ih KL, e4⟩ (fun p hp => hl p (List.mem_cons_of_mem _ hp)) hs.1 hs.2 e3 (hl _ List.mem_cons_self)
          · cases h
        · cases h
      · split at h
        · rename_i bb ec
          obtain ⟨g1, g2, g3, g4⟩ := ck_blt G ec
          obtain ⟨b1, b2⟩ := boot_blt g4
          split at h
          · rename_i a0 as0 a e1
            split at h
            · rename_i hs
              cases h
              exact fd_blt xc bb b2 (globB_ok g2) g3 b1 (nmOk_ok g1).2.2 (nmOk_ok g1).1 hs (mapE_ok (ih KL) e1 hl hs)
            · cases h
          · cases h
        · rename_i ec
          obtain ⟨g2, g3, rfl⟩ := ck_isi G ec
          split at h
          · rename_i o z p2 hne
            split at h
            · rename_i a t e1 e2
              split at h
              · rename_i hs
                cases h
                obtain ⟨t1, t2⟩ := ty_pe (p := p2) G K e2 hs.2.1 hs.2.2
                exact fd_isi xc G.cf t (globB_ok g2) g3 hs.1 (ih KL o a e1 (LamsIn.cons hl).1) t1 t2
              · cases h
            · cases h
          · cases h
        · rename_i kk ec
          obtain ⟨g1, g2, g3, ps, D⟩ := ck_df G ec
          split at h
          · rename_i a e1
            split at h
            · rename_i hs
              cases h
              have hm : m ≤ n := by have := K.hm; omega
              cases as with
              | nil =>
                cases e1
                exact fd_call0 xc D hm K.hx (globB_ok g2) g3 (nmOk_ok g1).1
              | cons a0 as0 => exact fd_call xc D hm K.hx (globB_ok g2) g3 (nmOk_ok g1).1 hs (mapE_ok (ih KL) e1 hl hs)
            · cases h
          · cases h
        · rename_i C f ec
          obtain ⟨g1, g2, M⟩ := ck_mk G ec
          split at h
          · rename_i a0 as0 a e1
            split at h
            · rename_i hs
              cases h
              exact fd_new xc M K.hm K.hx (globB_ok g2) (nmOk_ok g1).1 hs (mapE_ok (ih KL) e1 hl hs)
            · cases h
          · cases h
        · rename_i i ec
          split at h
          · rename_i a0 as0 a e1
            split at h
            · rename_i hs
              cases h
              exact (LF K KL).app ec (mapE_ok (ih KL) e1 hl hs) hs
            · cases h
          · cases h
        · cases h
    · -- keywords
      rename_i y p as kw kws pos
      split at h
      · rename_i kk a d e1 e2 e3
        obtain ⟨g1, g2, g3, ps, D⟩ := ck_df G e1
        have hm : m ≤ n := by have := K.hm; omega
        split at h
        · rename_i k1 k2 k3 pp ef
          split at h
          · rename_i hh
            cases h
            obtain ⟨h1, h2, h3⟩ := hh
            obtain ⟨l1, l2⟩ := lams2 hl
            have hmem := List.mem_of_find?_eq_some ef
            have hp := List.find?_some ef
            simp only [Bool.and_eq_true, beq_iff_eq] at hp
            obtain ⟨⟨q1, q2⟩, q3⟩ := hp
            subst q1 q2 q3
            cases as with
            | nil =>
              cases e2
              exact fd_callK0 xc D hm K.hx (globB_ok g2) g3 (nmOk_ok g1).1 h2 hmem h3 (mapK_ok (ih KL) e3 l2)
            | cons a0 as0 => exact fd_callK xc D hm K.hx (globB_ok g2) g3 (nmOk_ok g1).1 h1 h2 hmem h3 (mapE_ok (ih KL) e2 l1 h1) (mapK_ok (ih KL) e3 l2)
          · cases h
        · cases h
      · cases h
    · -- methods
      rename_i y p mm apos as pos
      by_cases m1 : mm = "split"
      · rw [if_pos m1] at h
        subst m1
        split at h
        · rename_i a0 o a e1 e2
          split at h
          · rename_i hs
            cases h
            obtain ⟨l1, l2⟩ := lams2 hl
            exact fd_split xc (ih KL _ o e1 l1) (mapE_ok (ih KL) e2 l2 (by rw [List.all_cons, hs.1]; rfl)) hs.1 rfl hs.2
          · cases h
        · cases h
      rw [if_neg m1] at h
      by_cases m2 : mm = "append"
      · rw [if_pos m2] at h
        subst m2
        split at h
        · rename_i a0 as0 i a e1 e2
          split at h
          · rename_i hs
            cases h
            obtain ⟨h1, h2, h3, h4, h5⟩ := hs
            exact fd_mthM xc PySem.F.slot_list_append PySem.F.type_list_append mut_append (idx_ok e1) (visB_ok h3) (nmOk_ok h4).1 (nmOk_ok h4).2.1 h1 h2 h5 (mapE_ok (ih KL) e2 hl h1)
          · cases h
        · cases h
      rw [if_neg m2] at h
      by_cases m3 : mm = "pop"
      · rw [if_pos m3] at h
        subst m3
        split at h
        · rename_i i a e1 e2
          split at h
          · rename_i hs
            cases h
            obtain ⟨h1, h2, h3, h4, h5⟩ := hs
            cases as with
            | nil =>
              cases e2
              exact fd_mthM0 xc PySem.F.slot_list_pop PySem.F.type_list_pop mut_pop (idx_ok e1) (visB_ok h3) (nmOk_ok h4).1 (nmOk_ok h4).2.1 h5
            | cons a0 as0 => exact fd_mthM xc PySem.F.slot_list_pop PySem.F.type_list_pop mut_pop (idx_ok e1) (visB_ok h3) (nmOk_ok h4).1 (nmOk_ok h4).2.1 h1 h2 h5 (mapE_ok (ih KL) e2 hl h1)
          · cases h
        · cases h
      rw [if_neg m3] at h
      cases h
    · cases h
end
end Fl
set_option Elab.async false
set_option linter.all false
set_option maxRecDepth 100000
set_option maxHeartbeats 16000000
/-! Layer F, part 24: names set at once. -/
namespace Fl
open PySem PySem.Spec PyProof.Rows L2 NdefX LamX
section
variable {X : Cx} {c : SC} {b : Bs} {W : WX} {N : List Str} {sc : Scope} {n m : Nat} {T : Tab} {P : PI} {call : Call}
/-- a tuple made, its parts stored from the left: the tuple itself is not tracked -/
theorem ps_parC {es vs : List Expr} {k k2 : Nat} {tpos p2 pos : Pos} {ta : TA} {g : TGs} {l : Nat} (hc : X.calm = true) (ha : PA X vs ta) (hg : PGs X es g) (hn : (assignEach es X.env).length = l) (hst : (assignEach es X.env).findIdx? (·.1) = none)
    (hw : swappedStores [.Tuple es k tpos] (.Tuple vs k2 p2) X.env = pure none) : PS X (.Assign [.Tuple es k tpos] (.Tuple vs k2 p2) pos) (fun D σ H => ta σ H fun xs H1 => xs.length = l ∧ xs.length ≤ sizeLine ∧ g xs σ H1 D.nx) := by
  refine ⟨fun pins s σ H D I h => ?_⟩
  refine wpAny_Assign_stores (Tuple_ (thn (ha.run _ pins s σ H _ I h) fun us s1 ⟨xs, H1, I1, r1, hl, hz, q1⟩ => ?_)) rfl hw
  refine wpAny_newObj_type ?_ (by show us.toArray.size ≤ sizeLine; rw [List.size_toArray, ← r1.length]; exact hz)
  have I2 : Inv X pins σ H1 { s1 with heap := s1.heap.push { cls := .type "tuple", data := .seq us.toArray } } := I1.kept (t' := s1.toks) fun b o e => Heap.get?_push_of_some _ e
  have h1 : (assignEach [.Tuple es k tpos] X.env).map (·.2) = [assign (.Tuple es k tpos) X.env] := rfl
  rw [h1]
  have pg : wpAny (model X.prog X.w) X.A (assign (.Tuple es k tpos) X.env (.ref s1.heap.objs.size)) (fun _ s' => ∃ σ' H', Inv X pins σ' H' s' ∧ D.nx σ' H') X.xe { s1 with heap := s1.heap.push { cls := .type "tuple", data := .seq us.toArray } } := by
    refine assign_Tuple_tuple (items := us.toArray) (I.ok.hd hc) (IsTup.new s1.heap _) (by rw [hn, List.size_toArray, ← r1.length, hl]) hst fun h' hx => ?_
    have I3 := I2.kept (h' := h') (t' := s1.toks) fun b o e => hx b o (Nat.ne_of_lt (Heap.lt_size e)) e
    exact hg.run pins _ σ H1 xs _ _ I3 (by simpa using r1) q1
  exact thn pg fun _ s2 q => q
theorem gN_ok : ∀ {is : List Nat} {vs : List V} {σ : L2.St} {H : Hp} {Q : L2.St → Hp → Prop}, vs.length = is.length → Q ((is.zip vs).foldl (fun σ p => σ.set p.1 (some p.2)) σ) H → gN is vs σ H Q
  | [], [], _, _, _, _, q => ⟨rfl, q⟩
  | [], _ :: _, _, _, _, h, _ => by cases h
  | _ :: _, [], _, _, _, h, _ => by cases h
  | i :: is, v :: vs, σ, H, Q, h, q => ⟨v, vs, rfl, gN_ok (by simpa using h) q⟩
theorem bk_ok {env : PySem.Env} (h : env.scope.kind = .function) : env.blockKind = .function := by
  unfold Env.blockKind
  rw [h]
  rfl
theorem swst2 {env : PySem.Env} {x y : Str} {px py pt p2 : Pos} {kt k2 : Nat} {a e : Expr} (hk : env.scope.kind = .function) (kx : env.scope.names.lookup x = some .local) (ky : env.scope.names.lookup y = some .local) (ln : py.line = px.line) (nd : [x, y].eraseDups.length = 2) (hs : [a, e].all notStar = true)
    (hf : [a, e].all (foldedForSure 8) = false) (hc : [a, e].all (constantsAlone 8) = false) : swappedStores [.Tuple [.Name x px, .Name y py] kt pt] (.Tuple [a, e] k2 p2) env = pure (some [x, y]) := by
  have b1 := bk_ok hk
  have kx' : env.kindOf x = some .local := kx
  have ky' : env.kindOf y = some .local := ky
  unfold swappedStores
  simp only [List.length_cons, List.length_nil, b1, List.head?_cons, Option.map_some, Option.getD_some, Expr.pos, List.filterMap_cons, List.filterMap_nil, kx', ky', ln, nd, hf, hc, beq_self_eq_true, Bool.and_self, if_true, bne_self_eq_false, Bool.or_self, Bool.false_eq_true, if_false, Bool.not_true, Bool.or_false, Bool.true_or]
  refine if_neg fun z => ?_
  obtain ⟨x, hx, q⟩ := List.any_eq_true.mp z
  have := List.all_eq_true.mp hs x hx
  cases x <;> first | (cases this; done) | (cases q; done)
theorem swst3 {env : PySem.Env} {x y z : Str} {px py pz pt p2 : Pos} {kt k2 : Nat} {a e f : Expr} (hk : env.scope.kind = .function) (kx : env.scope.names.lookup x = some .local) (ky : env.scope.names.lookup y = some .local) (kz : env.scope.names.lookup z = some .local) (ln : py.line = px.line) (ln2 : pz.line = px.line) (nd : [x, y, z].eraseDups.length = 3) (hs : [a, e, f].all notStar = true)
    (hf : [a, e, f].all (foldedForSure 8) = false) (hc : [a, e, f].all (constantsAlone 8) = false) : swappedStores [.Tuple [.Name x px, .Name y py, .Name z pz] kt pt] (.Tuple [a, e, f] k2 p2) env = pure (some [x, y, z]) := by
  have b1 := bk_ok hk
  have kx' : env.kindOf x = some .local := kx
  have ky' : env.kindOf y = some .local := ky
  have kz' : env.kindOf z = some .local := kz
  unfold swappedStores
  simp only [List.length_cons, List.length_nil, b1, List.head?_cons, Option.map_some, Option.getD_some, Expr.pos, List.filterMap_cons, List.filterMap_nil, kx', ky', kz', ln, ln2, nd, hf, hc, beq_self_eq_true, Bool.and_self, if_true, bne_self_eq_false, Bool.or_self, Bool.false_eq_true, if_false, Bool.not_true, Bool.or_false, Bool.true_or, Bool.or_true]
  refine if_neg fun z => ?_
  obtain ⟨x, hx, q⟩ := List.any_eq_true.mp z
  have := List.all_eq_true.mp hs x hx
  cases x <;> first | (cases this; done) | (cases q; done)
theorem filt_len {env : PySem.Env} {line : Nat} : ∀ {es : List Expr}, es.all isNameE = true → allLocal env.scope es = false → (es.filterMap fun
    | .Name id pos => if env.kindOf id == some .local && pos.line == line then some id else none
    | _ => none).length ≠ es.length
  | [], _, h => by cases h
  | e :: es, hn, h => by
    rw [List.all_cons, Bool.and_eq_true] at hn
    cases e with
    | Name x p =>
      have hle : ∀ (l : List Expr), (l.filterMap fun
        | .Name id pos => if env.kindOf id == some .local && pos.line == line then some id else none
        | _ => none).length ≤ l.length := fun l => List.length_filterMap_le _ _
      have h : (decide (env.scope.names.lookup x = some .local) && allLocal env.scope es) = false := h
      rw [Bool.and_eq_false_iff] at h
      have hx : env.kindOf x = env.scope.names.lookup x := rfl
      rw [List.filterMap_cons]
      by_cases q : (env.kindOf x == some .local && p.line == line) = true
      · simp only [q, if_true, List.length_cons]
        rcases h with h | h
        · rw [Bool.and_eq_true, beq_iff_eq, hx] at q
          exact absurd q.1 (of_decide_eq_false h)
        · have := filt_len (line := line) hn.2 h
          omega
      · have q' : (env.kindOf x == some .local && p.line == line) = false := by simpa using q
        simp only [q', Bool.false_eq_true, if_false]
        have := hle es
        rw [List.length_cons]
        omega
    | _ => cases hn.1
theorem swno {env : PySem.Env} {ts vs : List Expr} {pt p2 : Pos} {kt k2 : Nat} (hn : ts.all isNameE = true) (ha : allLocal env.scope ts = false) : swappedStores [.Tuple ts kt pt] (.Tuple vs k2 p2) env = pure none := by
  unfold swappedStores
  dsimp only
  split
  · rfl
  split
  · rfl
  have := filt_len (env := env) (line := (ts.head?.map (·.pos.line)).getD 0) hn ha
  split
  · rfl
  · rename_i hh
    refine absurd ?_ hh
    rw [Bool.or_eq_true]
    left
    exact bne_iff_ne.mpr this
end
end Fl
set_option Elab.async false
set_option linter.all false
set_option maxRecDepth 100000
set_option maxHeartbeats 16000000
/-! Layer F, part 25: the translation is sound: statements. -/
namespace Fl
open PySem PySem.Spec PyProof.Rows L2 NdefX LamX
def lamsT : T1 → List (Nat × LI)
  | .s _ => []
  | .x _ e => lamsE e
def lamsS : S → List (Nat × LI)
  | .cons a r => lamsS a ++ lamsS r
  | .asg _ e => lamsE e
  | .asgT ts e => (ts.map lamsT).flatten ++ lamsE e
  | .par _ e => lamsE e
  | .put _ x e => lamsE x ++ lamsE e
  | .fset _ _ e => lamsE e
  | .exp e => lamsE e
  | .ret e => lamsE e
  | .ite c a b => lamsE c ++ (lamsS a ++ lamsS b)
  | .for_ _ _ _ s a => lamsE s ++ lamsS a
  | .whl c a => lamsE c ++ lamsS a
  | _ => []
def LamsInS (c : SC) (e : S) : Prop := ∀ p ∈ lamsS e, c.lam p.1 = some p.2
section
variable {X : Cx} {c : SC} {b : Bs} {W : WX} {N : List Str} {sc : Scope} {n m : Nat} {T : Tab} {P : PI} {call : Call}
theorem mapS_ok {f : Stmt → Option S} (hf : ∀ s x, f s = some x → LamsInS c x → PS X s (tO c b W (denS P call x))) : ∀ {es : List Stmt} {l : S}, mapS f es = some l → LamsInS c l → PSs X es (tO c b W (denS P call l))
  | [], l, h, _ => by
    cases h
    exact fs_nil
  | e :: es, l, h, hl => by
    unfold mapS at h
    split at h
    · rename_i a r e1 e2
      cases h
      obtain ⟨l1, l2⟩ := lams2 hl
      exact fs_cons (hf e a e1 l1) (mapS_ok hf e2 l2)
    · cases h
theorem swc {elt : Expr} {gs : List Comprehension} {scope : Scope} {pos py : Pos} {y : Str} {l : Nat} {env : PySem.Env} : swapsWith (.ListComp elt gs scope pos) (some (.Name y py)) l env = pure (env.blockKind == .function && env.kindOf y == some .local && py.line == pos.line && !(scope.names.any fun (n, k) => n == y && (k == .local || k == .cell))) := rfl
theorem sw_cases (e : Expr) (t : Option Expr) (l : Nat) (env : PySem.Env) : notComp e = true ∨ (∃ elt gs scope pos, e = .ListComp elt gs scope pos) ∨ (∀ T N k sc lam, trE T N k sc lam e = none) := by
  cases e with
  | ListComp a g s p => exact .inr (.inl ⟨a, g, s, p, rfl⟩)
  | SetComp a g s p => exact .inr (.inr fun T N k sc lam => by cases k <;> rfl)
  | DictComp a d g s p => exact .inr (.inr fun T N k sc lam => by cases k <;> rfl)
  | _ => exact .inl rfl
theorem comp_inv {k : Nat} {lam : Option Str} {elt : Expr} {gs : List Comprehension} {scope : Scope} {pos : Pos} {x : E} (h : trE T N (k + 1) sc lam (.ListComp elt gs scope pos) = some x) :
    ∃ tg it ifs kk as src tgs many cc xx, gs = [⟨tg, it, ifs, 0⟩] ∧ itOf T sc (isTupT tg) it = some (kk, as) ∧ mapE (trE T N k sc lam) as = some src ∧ tgt N (relS scope sc) tg = some (tgs, many) ∧ ifsE (trE T N k (relS scope sc) none) ifs = some cc ∧ trE T N k (relS scope sc) none elt = some xx ∧
      blkC N sc scope (ownOf N scope) = true ∧ notSetD it = true ∧ (tgs.all fun i => ((ownOf N scope).map (·.2)).contains i) = true ∧ as.all notStar = true ∧ x = .comp xx tgs many kk src cc ((ownOf N scope).map (·.2)) := by
  unfold trE at h
  split at h
  all_goals first
    | (rename_i e; cases e; done)
    | skip
  · rename_i tg it ifs scope' p e
    cases e
    split at h
    · rename_i kk as e0
      split at h
      · rename_i src tgs many cc xx e1 e2 e3 e4
        split at h
        · rename_i hh
          cases h
          exact ⟨tg, it, ifs, kk, as, src, tgs, many, cc, xx, rfl, e0, e1, e2, e3, e4, hh.1, hh.2.1, hh.2.2.1, hh.2.2.2, rfl⟩
        · cases h
      · cases h
    · cases h
  · cases h
theorem idxs_len {N : List Str} : ∀ {l : List Str} {is : List Nat}, idxs N l = some is → is.length = l.length
  | [], _, h => by cases h; rfl
  | x :: xs, is, h => by
    unfold idxs at h
    split at h
    · rename_i i is' e1 e2; cases h; rw [List.length_cons, List.length_cons, idxs_len e2]
    · cases h
theorem namesE_len : ∀ {es : List Expr}, es.all isNameE = true → (namesE es).length = es.length
  | [], _ => rfl
  | e :: es, h => by
    rw [List.all_cons, Bool.and_eq_true] at h
    cases e with
    | Name x p =>
      show (namesE es).length + 1 = _
      rw [namesE_len h.2]
      rfl
    | _ => cases h.1
theorem len3 {α : Type} {l : List α} (h : l.length = 3) : ∃ a a2 a3, l = [a, a2, a3] := by
  match l, h with
  | [a, a2, a3], _ => exact ⟨a, a2, a3, rfl⟩
theorem idxs_cons {N : List Str} {x : Str} {xs : List Str} {is : List Nat} (h : idxs N (x :: xs) = some is) : ∃ i is', idx N x = some i ∧ idxs N xs = some is' ∧ is = i :: is' := by
  unfold idxs at h
  split at h
  · rename_i i is' e1 e2; cases h; exact ⟨i, is', e1, e2, rfl⟩
  · cases h
/-- targets of an unpacked tuple -/
theorem t1_ok (G : GF c T P call m) (K : Ctx c N sc n m X W) (hfn : ∀ x, X.fn x = true) {f : Expr → Option E} {k : Nat} {q : Option Str} (hf : Snd c b W X P call (trE T N k sc q)) : ∀ {es : List Expr} {l : List T1}, mapT (t1 T N k sc q) es = some l → (∀ p ∈ (l.map lamsT).flatten, c.lam p.1 = some p.2) → es.all notStar = true →
    PGs X es (gT c b W (l.map (t1Den P call))) ∧ (assignEach es X.env).length = (l.map (t1Den P call)).length ∧ (assignEach es X.env).findIdx? (·.1) = none
  | [], l, h, _, _ => by
    cases h
    exact ⟨pgs_nil, rfl, rfl⟩
  | e :: es, l, h, hl, hs => by
    rw [List.all_cons, Bool.and_eq_true] at hs
    unfold mapT at h
    split at h
    · rename_i a r e1 e2
      cases h
      rw [List.map_cons, List.flatten_cons] at hl
      obtain ⟨l1, l2⟩ := lams2 hl
      obtain ⟨g1, g2, g3⟩ := t1_ok G K hfn (f := f) hf e2 l2 hs.2
      have xc := K.xc
      cases e with
      | Name x p =>
        have e1 : (if localB sc x = true then (idx N x).map T1.s else none) = some a := e1
        split at e1
        · rename_i hd
          cases ei : idx N x with
          | none => rw [ei] at e1; cases e1
          | some i =>
            rw [ei] at e1
            cases e1
            have pg : PG X (.Name x p) (gName i) := pg_name (by rw [xc.nm]; exact xc.nd) (by rw [xc.nm]; exact idx_ok ei) (by rw [xc.sc]; exact localB_ok hd) (.inl (hfn x))
            refine ⟨pgs_cons pg g1 rfl, ?_, ?_⟩
            · show (assignEach es X.env).length + 1 = _
              rw [g2]
              rfl
            · show List.findIdx? (·.1) ((false, assign (.Name x p) X.env) :: assignEach es X.env) = none
              rw [List.findIdx?_cons, g3]
              rfl
        · cases e1
      | Subscript o i p =>
        cases o with
        | Name x p2 =>
          have e1 : (if visB sc x = true ∧ nmOk x = true ∧ notSlice i = true then (match idx N x, trE T N k sc q i with
            | some k, some e => some (T1.x k e)
            | _, _ => none) else none) = some a := e1
          split at e1
          · rename_i hh
            split at e1
            · rename_i kk ee f1 f2
              cases e1
              have fd := hf i ee f2 l1
              have pg : PG X (.Subscript (.Name x p2) i p) (gSub (tVar kk) (tFD c b W fun ρ => ((den P call ee).v ρ).bind toD) (rPut c)) := by
                refine pg_sub (pe_var (i := kk) (by rw [xc.nm]; exact idx_ok f1) (by rw [xc.sc]; exact visB_ok hh.1) (nmOk_ok hh.2.1).1 (nmOk_ok hh.2.1).2.1) (fe_d fd.v) (set_put xc) ?_
                intro v
                cases i <;> first | rfl | (cases hh.2.2)
              refine ⟨pgs_cons pg g1 rfl, ?_, ?_⟩
              · show (assignEach es X.env).length + 1 = _
                rw [g2]
                rfl
              · show List.findIdx? (·.1) ((false, assign (.Subscript (.Name x p2) i p) X.env) :: assignEach es X.env) = none
                rw [List.findIdx?_cons, g3]
                rfl
            · cases e1
          · cases e1
        | _ => cases e1
      | _ => cases e1
    · cases h
theorem trS_ok (G : GF c T P call m) (LF : ∀ {X : Cx} {W : WX} {sc : Scope} {lam : Option Str}, Ctx c N sc n m X W → LamC c b X lam → LamF c b W X N sc T P call lam) {q : Option Str} (K : Ctx c N sc n m X W) (hfn : ∀ x, X.fn x = true) (KL : LamC c b X q) :
    ∀ (k : Nat) {s : Stmt} {x : S}, trS T N q k sc s = some x → LamsInS c x → PS X s (tO c b W (denS P call x))
  | 0, _, _, h, _ => by cases h
  | k + 1, s, x, h, hl => by
    have xc := K.xc
    have ih : Snd c b W X P call (trE T N k sc q) := fun e x h hl => trE_ok G LF k K KL h hl
    have ihs : ∀ {es : List Stmt} {l : S}, mapS (trS T N q k sc) es = some l → LamsInS c l → PSs X es (tO c b W (denS P call l)) := fun h hl => mapS_ok (fun s x h hl => trS_ok G LF K hfn KL k h hl) h hl
    unfold trS at h
    split at h
    · cases h; exact fs_pass
    · cases h; exact fs_brk
    · cases h; exact fs_cnt
    · cases h; exact fs_never
    · cases h; exact fs_retN
    · rename_i e p
      cases ee : trE T N k sc q e with
      | none => rw [ee] at h; cases h
      | some v => rw [ee] at h; cases h; exact fs_ret (ih e v ee hl)
    · rename_i e p
      by_cases hc : notComp e = true
      · rw [if_pos hc] at h
        cases ee : trE T N k sc q e with
        | none => rw [ee] at h; cases h
        | some v => rw [ee] at h; cases h; exact fs_exp (ih e v ee hl) (sw_no hc)
      · rw [if_neg hc] at h; cases h
    · rename_i e as bs p
      split at h
      · rename_i y1 y2 y3 e1 e2 e3
        cases h
        obtain ⟨l1, l2⟩ := lams2 hl
        obtain ⟨l2, l3⟩ := lams2 l2
        exact fs_ite (ih e y1 e1 l1) (ihs e2 l2) (ihs e3 l3)
      · cases h
    · rename_i e as p
      split at h
      · rename_i y1 y2 e1 e2
        cases h
        obtain ⟨l1, l2⟩ := lams2 hl
        exact fs_whl xc (ih e y1 e1 l1) (ihs e2 l2)
      · cases h
    · rename_i tg it as p
      split at h
      · rename_i kk args e0
        split at h
        · rename_i src tgs many y e1 e2 e3
          split at h
          · rename_i hh
            cases h
            obtain ⟨l1, l2⟩ := lams2 hl
            exact fs_for xc (itOf_ok G K ih e0 e1 l1 hh.2) (tgtS_ok xc hfn e2) (ihs e3 l2) hh.1
          · cases h
        · cases h
      · cases h
    · -- name = e
      rename_i y p e pos
      split at h
      · rename_i i v e1 e2
        split at h
        · rename_i hL
          cases h
          have plain : swapsWith e (some (.Name y p)) pos.line X.env = pure false → PS X (.Assign [.Name y p] e pos) (tO c b W (denS P call (.asg i v))) := fun hs => fs_asg xc hfn (idx_ok e1) (localB_ok hL) (ih e v e2 hl) hs
          rcases sw_cases e none 0 X.env with hc | ⟨elt, gs, scope, cpos, rfl⟩ | hn
          · exact plain (sw_no hc)
          · cases hb : (X.env.blockKind == .function && X.env.kindOf y == some .local && p.line == cpos.line && !(scope.names.any fun (n, k) => n == y && (k == .local || k == .cell))) with
            | false => exact plain (by rw [swc, hb])
            | true =>
              have hsw : swapsWith (.ListComp elt gs scope cpos) (some (.Name y p)) pos.line X.env = pure true := by rw [swc, hb]
              have hyl : sc.names.lookup y = some .local := by
                rw [Bool.and_eq_true, Bool.and_eq_true, Bool.and_eq_true, beq_iff_eq, beq_iff_eq] at hb
                rw [← xc.sc]
                exact hb.1.1.2
              cases k with
              | zero => cases e2
              | succ k =>
                have ih' : Snd c b W X P call (trE T N k sc q) := fun e x h hl => trE_ok G LF k K KL h hl
                obtain ⟨tg, it, ifs, kk, as, src, tgs, many, cc, xx, rfl, e0, e3, e4, e5, e6, h1, h2, h3, h4, rfl⟩ := comp_inv e2
                obtain ⟨l1, l2⟩ := lams2 hl
                obtain ⟨l2, l3⟩ := lams2 l2
                refine fs_asgC (own := ownOf N scope) xc (idx_ok e1) hyl hsw (fun i hi => ?_) (itOf_ok G K ih' e0 e3 l2 h4) h1 (fun s H C cl fp => ?_) (fun s H C cl fp => ?_) (fun s H C cl fp => ?_) h2
                · have := List.all_eq_true.mp h3 i hi
                  simpa using this
                · exact tgt_ok (blk_ctx K).xc e4
                · exact ifs_ok (fun e x h hl => trE_ok G LF k (blk_ctx K) LamC.none h hl) e5 l3
                · exact (trE_ok G LF k (blk_ctx K) LamC.none e6 l1).v
          · rw [hn] at e2; cases e2
        · cases h
      · cases h
    · -- names at once
      rename_i ts j p vs j2 p2 pos
      split at h
      · rename_i hh
        obtain ⟨ho, hlen, hl23⟩ := hh
        split at h
        · rename_i is v e1 e2
          split at h
          · rename_i nd
            cases h
            by_cases hpar : parOk sc ts vs = true
            · unfold parOk at hpar
              simp only [Bool.and_eq_true, decide_eq_true_eq, Bool.not_eq_true'] at hpar
              obtain ⟨⟨⟨⟨⟨⟨hk, hL⟩, hln⟩, hdup⟩, hf⟩, hcst⟩, hst⟩ := hpar
              obtain ⟨a1, a2⟩ := allLocal_ok hL
              have ha := mapE_ok ih e2 hl hst
              rcases hl23 with h2 | h3
              · obtain ⟨t1', t2', rfl⟩ := len2 h2
                obtain ⟨v1', v2', rfl⟩ := len2 (hlen.symm.trans h2)
                cases t1' with
                | Name x px => cases t2' with
                  | Name y py =>
                    have kx := a2 x px List.mem_cons_self
                    have ky := a2 y py (List.mem_cons_of_mem _ List.mem_cons_self)
                    have e1 : (match idx N x, idxs N [y] with
                      | some i, some is => some (i :: is)
                      | _, _ => none) = some is := e1
                    split at e1
                    · rename_i i is' f1 f2
                      cases e1
                      have f2 : (match idx N y, idxs N [] with
                        | some i, some is => some (i :: is)
                        | _, _ => none) = some is' := f2
                      split at f2
                      · rename_i j' is2 f3 f4
                        cases f2
                        cases f4
                        have hij : i ≠ j' := fun z => by
                          have := (List.nodup_cons.mp nd).1
                          exact this (by rw [z]; exact List.mem_cons_self)
                        have ln : py.line = px.line := of_decide_eq_true (List.all_eq_true.mp hln (.Name y py) (List.mem_cons_of_mem _ List.mem_cons_self))
                        refine fs_par2 (d := den P call v) xc (idx_ok f1) (idx_ok f3) hij kx ky ha ?_
                        exact swst2 (by rw [xc.sc]; exact hk) (by rw [xc.sc]; exact kx) (by rw [xc.sc]; exact ky) ln hdup hst hf hcst
                      · cases f2
                    · cases e1
                  | _ => cases a1
                | _ => cases a1
              · obtain ⟨t1', t2', t3', rfl⟩ := len3 h3
                obtain ⟨v1', v2', v3', rfl⟩ := len3 (hlen.symm.trans h3)
                cases t1' with
                | Name x px => cases t2' with
                  | Name y py => cases t3' with
                    | Name z pz =>
                      have kx := a2 x px List.mem_cons_self
                      have ky := a2 y py (List.mem_cons_of_mem _ List.mem_cons_self)
                      have kz := a2 z pz (List.mem_cons_of_mem _ (List.mem_cons_of_mem _ List.mem_cons_self))
                      obtain ⟨i, is', f1, g1, rfl⟩ := idxs_cons e1
                      obtain ⟨j', is2, f3, g2, rfl⟩ := idxs_cons g1
                      obtain ⟨l', is3, f5, g3, rfl⟩ := idxs_cons g2
                      cases g3
                      have n1 := List.nodup_cons.mp nd
                      have n2 := List.nodup_cons.mp n1.2
                      have hij : i ≠ j' := fun z => n1.1 (by rw [z]; exact List.mem_cons_self)
                      have hil : i ≠ l' := fun z => n1.1 (by rw [z]; exact List.mem_cons_of_mem _ List.mem_cons_self)
                      have hjl : j' ≠ l' := fun z => n2.1 (by rw [z]; exact List.mem_cons_self)
                      have ln : py.line = px.line := of_decide_eq_true (List.all_eq_true.mp hln (.Name y py) (List.mem_cons_of_mem _ List.mem_cons_self))
                      have ln2 : pz.line = px.line := of_decide_eq_true (List.all_eq_true.mp hln (.Name z pz) (List.mem_cons_of_mem _ (List.mem_cons_of_mem _ List.mem_cons_self)))
                      refine fs_par3 (d := den P call v) xc (idx_ok f1) (idx_ok f3) (idx_ok f5) hij hil hjl kx ky kz ha ?_
                      exact swst3 (by rw [xc.sc]; exact hk) (by rw [xc.sc]; exact kx) (by rw [xc.sc]; exact ky) (by rw [xc.sc]; exact kz) ln ln2 hdup hst hf hcst
                    | _ => cases a1
                  | _ => cases a1
                | _ => cases a1
            · have hno : parNo sc ts vs = true := ho.resolve_left hpar
              unfold parNo at hno
              simp only [Bool.and_eq_true, decide_eq_true_eq, Bool.not_eq_true'] at hno
              obtain ⟨⟨⟨hk, hL⟩, hnl⟩, hst⟩ := hno
              obtain ⟨a1, a2⟩ := allLoc_ok hL
              obtain ⟨g1, g2, g3⟩ := names_pgs xc (fun x p hp => ⟨localB_ok (a2 x p hp), .inl (hfn x)⟩) a1 e1
              have ha := mapE_ok ih e2 hl hst
              refine PS.imp (ps_parC xc.calm ha g1 g2 g3 (swno a1 (by rw [xc.sc]; exact hnl))) fun D σ H hq => ?_
              obtain ⟨ρ, r, hh⟩ := par_imp nd hq
              refine ⟨ρ, r, hh.mono fun xs H1 h1 => ⟨h1.1, ?_, gN_ok h1.1 h1.2⟩⟩
              rw [h1.1, idxs_len e1, namesE_len a1, sizeLine_eq]
              rcases hl23 with z | z <;> omega
          · cases h
        · cases h
      · cases h
    · -- a tuple unpacked
      rename_i ts j p e pos hne
      split at h
      · rename_i l v e1 e2
        split at h
        · rename_i hh
          cases h
          obtain ⟨l1, l2⟩ := lams2 hl
          obtain ⟨g1, g2, g3⟩ := t1_ok G K hfn (f := fun _ => none) (fun e x h hl => trE_ok G LF k K KL h hl) e1 l1 hh.2
          exact fs_unp xc (ih e v e2 l2) hh.1 g1 g2 g3
        · cases h
      · cases h
    · rename_i y p i p2 e pos
      split at h
      · rename_i kk z v e1 e2 e3
        split at h
        · rename_i hh
          cases h
          obtain ⟨l1, l2⟩ := lams2 hl
          exact fs_put xc (idx_ok e1) (visB_ok hh.1) (nmOk_ok hh.2.1).1 (nmOk_ok hh.2.1).2.1 (ih i z e2 l1) (ih e v e3 l2) (by
            intro w
            cases i <;> first | rfl | (cases hh.2.2))
        · cases h
      · cases h
    · rename_i y p f p2 e pos
      split at h
      · rename_i kk g v e1 e2 e3
        split at h
        · rename_i hh
          cases h
          have q := fs_fset (pos := pos) (p := p) (p2 := p2) (f := g) xc G.cf G.ck (idx_ok e1) (visB_ok hh.1) (nmOk_ok hh.2.1).1 (nmOk_ok hh.2.1).2.1 (ih e v e3 hl)
          rw [G.fldN f g e2] at q
          exact q
        · cases h
      · cases h
    · cases h
end
end Fl
set_option Elab.async false
set_option linter.all false
set_option maxRecDepth 100000
set_option maxHeartbeats 16000000
/-! Layer F, part 26: lambdas: cells pinned and let go. -/
namespace Fl
open PySem PySem.Spec PyProof.Rows L2 NdefX LamX
theorem flatK_map : ∀ (l : List (Key × D)), flatK l = flatL (l.map (·.2))
  | [] => rfl
  | (_, d) :: r => by show (flat d && flatK r) = (flat d && flatL (r.map (·.2))); rw [flatK_map r]
theorem flatC_map : ∀ (l : List (Str × D)), flatC l = flatL (l.map (·.2))
  | [] => rfl
  | (_, d) :: r => by show (flat d && flatC r) = (flat d && flatL (r.map (·.2))); rw [flatC_map r]
theorem flatT_map : ∀ (l : List (List Key × D)), flatT l = flatL (l.map (·.2))
  | [] => rfl
  | (_, d) :: r => by show (flat d && flatT r) = (flat d && flatL (r.map (·.2))); rw [flatT_map r]
theorem flatF_map : ∀ (l : List (Nat × D)), flatF l = flatL (l.map (·.2))
  | [] => rfl
  | (_, d) :: r => by show (flat d && flatF r) = (flat d && flatL (r.map (·.2))); rw [flatF_map r]
/-- all that is no pin stays -/
def Mv (H H' : Hp) : Prop := ∀ a o, H a = some o → (∀ ob, o ≠ pin ob) → H' a = some o
/-- a lambda's number -/
abbrev LamK (c : SC) : Prop := ∀ k L, c.lam k = some L → 1000 ≤ k
section
variable {c : SC} {H H' : Hp}
theorem Mv.fz (m : Mv H H') {a : Addr} {u : HO} (h : Fz H a u) (hu : ∀ o, u ≠ .ext o) : Fz H' a u := by
  obtain ⟨o, h⟩ := h
  exact ⟨o, m a _ h fun ob e => by
    injection e with _ e
    exact absurd e (hu _)⟩
mutual
theorem Rp.move (lk : LamK c) (m : Mv H H') : ∀ {v : V} {d : D}, Rp c H v d → flat d = true → Rp c H' v d
  | _, _, .non, _ => .non
  | _, _, .bl b, _ => .bl b
  | _, _, .int i, _ => .int i
  | _, _, .str x, _ => .str x
  | _, _, .tup h t, f => .tup (m _ _ h fun ob e => by cases e) (RpL.move lk m t f)
  | _, _, .tk h t, f => .tk h (RpL.move lk m t f)
  | _, _, .lst h t, f => .lst (m.fz h fun _ z => by cases z) (RpL.move lk m t f)
  | _, _, .dk h e1 e2 t, f => .dk (m.fz h fun _ z => by cases z) e1 e2 (RpL.move lk m t (by rw [← flatK_map]; exact f))
  | _, _, .ck h e1 e2 t, f => .ck h e1 e2 (RpL.move lk m t (by rw [← flatC_map]; exact f))
  | _, _, .dt h e1 e2 t, f => .dt (m.fz h fun _ z => by cases z) e1 e2 (RpL.move lk m t (by rw [← flatT_map]; exact f))
  | _, _, .ins hC h e1 e2 t, f => .ins hC (m.fz h fun _ z => by cases z) e1 e2 (RpL.move lk m t (by rw [← flatF_map]; exact f))
  | _, _, .fnG h, _ => .fnG h
  | _, _, .fnL (caps := []) (vs := vs) h1 h2 h3 h4 t, f => absurd (lk _ _ h1) (by have := of_decide_eq_true f; omega)
  | _, _, .fnL (caps := _ :: _) .., f => by cases f
theorem RpL.move (lk : LamK c) (m : Mv H H') : ∀ {vs : List V} {ds : List D}, RpL c H vs ds → flatL ds = true → RpL c H' vs ds
  | _, _, .nil, _ => .nil
  | _, _, .cons (d := d) (ds := ds) h t, f => by
    have f : (flat d && flatL ds) = true := f
    rw [Bool.and_eq_true] at f
    exact .cons (Rp.move lk m h f.1) (RpL.move lk m t f.2)
end
theorem Mo.move (lk : LamK c) (m : Mv H H') {a : Addr} {o : MO} (h : Mo c H a o) (f : flat (fz o) = true) : Mo c H' a o := by
  cases o with
  | l xs => obtain ⟨vs, x, r⟩ := h; exact ⟨vs, m _ _ x (fun ob e => by cases e), r.move lk m f⟩
  | k ks => obtain ⟨vs, x, q, r⟩ := h; exact ⟨vs, m _ _ x (fun ob e => by cases e), q, r.move lk m (by rw [← flatK_map]; exact f)⟩
  | t ks => obtain ⟨vs, x, q, r⟩ := h; exact ⟨vs, m _ _ x (fun ob e => by cases e), q, r.move lk m (by rw [← flatT_map]; exact f)⟩
  | i C fs => obtain ⟨hC, dx, fv, x, q, r⟩ := h; exact ⟨hC, dx, fv, m _ _ x (fun ob e => by cases e), q, r.move lk m (by rw [← flatF_map]; exact f)⟩
theorem Sv.move (lk : LamK c) (m : Mv H H') {x : V} {sv : SV} (h : Sv c H x sv) (f : flatSV sv = true) : Sv c H' x sv := by
  cases sv with
  | d v => exact Rp.move lk m h f
  | m w o => obtain ⟨a, ea, mo⟩ := h; exact ⟨a, ea, mo.move lk m f⟩
theorem tabN_move {P : Addr} {nm : Nat → Nat → Str} (t : TabN H P nm) (m : Mv H H') : TabN H' P nm := by
  obtain ⟨ps, h1, h2, h3⟩ := t
  refine ⟨ps, m _ _ h1 (fun ob e => by cases e), h2, fun pos cv hc => ?_⟩
  obtain ⟨c, e1, e2⟩ := h3 pos cv hc
  exact ⟨c, e1, m _ _ e2 (fun ob e => by cases e)⟩
theorem tabsN_move (m : Mv H H') {T : List NTab} (t : TabsN T H) : TabsN T H' := fun p hp => tabN_move (t p hp) m
end
/-! ### cells, pinned or not -/
/-- the addresses of a lambda's cells -/
def CellA (cl : List (Str × Addr)) (a : Addr) : Prop := ∃ y, cl.lookup y = some a
open Classical in
/-- the cells pinned as they stand in h -/
noncomputable def pinH (cl : List (Str × Addr)) (h : Heap) (H : Hp) : Hp := fun a => if CellA cl a then (h.get? a).map pin else H a
open Classical in
/-- the cells let go -/
noncomputable def unpH (cl : List (Str × Addr)) (H : Hp) : Hp := fun a => if CellA cl a then none else H a
section
variable {cl : List (Str × Addr)} {h : Heap} {H : Hp} {a : Addr}
theorem pinH_in (i : CellA cl a) : pinH cl h H a = (h.get? a).map pin := by unfold pinH; rw [if_pos i]
theorem pinH_out (i : ¬ CellA cl a) : pinH cl h H a = H a := by unfold pinH; rw [if_neg i]
theorem unpH_in (i : CellA cl a) : unpH cl H a = none := by unfold unpH; rw [if_pos i]
theorem unpH_out (i : ¬ CellA cl a) : unpH cl H a = H a := by unfold unpH; rw [if_neg i]
/-- what stands at the cells in H is a pinned cell, or nothing -/
def AtCells (cl : List (Str × Addr)) (H : Hp) : Prop := ∀ a, CellA cl a → ∃ o v, H a = some (pin o) ∧ o.data = .cell v
theorem mv_unp (k : AtCells cl H) : Mv H (unpH cl H) := fun a o e n => by
  by_cases i : CellA cl a
  · obtain ⟨o', v, e1, e2⟩ := k a i
    rw [e] at e1
    cases e1
    exact absurd rfl (n o')
  · rw [unpH_out i]; exact e
theorem pin_ext (k : ∀ a, CellA cl a → H a = none) : ∀ b o, H b = some o → pinH cl h H b = some o := fun b o e => by
  rw [pinH_out fun i => by rw [k b i] at e; cases e]
  exact e
end
end Fl
set_option Elab.async false
set_option linter.all false
set_option maxRecDepth 100000
set_option maxHeartbeats 16000000
/-! Layer F, part 27: a function value called. -/
namespace Fl
open PySem PySem.Spec PyProof.Rows L2 NdefX LamX
/-- a lambda at work -/
def LamRun (c : SC) (call : Call) (m : Nat) (g : Nat) (L : LI) : Prop :=
  ∀ (A : Around) (outer : List PySem.Env) (s : Shared) (H : Hp) (f c' : Addr) (cl : List (Str × Addr)) (pm ctv : Value) (us : List Value) (vs ws : List V) (caps : List D) (Q : VK) (E : XK), Room m A → Env0 c.P c.w c.K c.mg c.base A outer s H →
    s.heap.get? f = some (PySem.W.kla_obj "<lambda>" L.qual L.params L.body L.scope cl pm c' ctv) → H c' = some (CodeO c' L.qual) → CellsAt cl L.fr (ws.map some) s.heap H → Vals vs us → RpL c H ws caps → spF c call g caps vs H Q E →
    codeAny (model c.P c.w) A (.call (.ref f) ⟨us, []⟩) (CR (L2.CX c.P c.w) outer c.P c.w H s Q E) s
open Classical in
/-- the cells pinned again -/
noncomputable def repH (cl : List (Str × Addr)) (H2 H1 : Hp) : Hp := fun a => match H1 a with
  | some o => some o
  | none => if CellA cl a then H2 a else none
section
variable {cl : List (Str × Addr)} {H2 H1 : Hp} {a : Addr}
theorem repH_some {o : HO} (e : H1 a = some o) : repH cl H2 H1 a = some o := by unfold repH; rw [e]
theorem repH_cell (e : H1 a = none) (i : CellA cl a) : repH cl H2 H1 a = H2 a := by unfold repH; rw [e]; dsimp only; rw [if_pos i]
theorem repH_none (e : H1 a = none) (i : ¬ CellA cl a) : repH cl H2 H1 a = none := by unfold repH; rw [e]; dsimp only; rw [if_neg i]
theorem repH_ext : ∀ b o, H1 b = some o → repH cl H2 H1 b = some o := fun b o e => repH_some e
end
theorem flat_call {c : SC} {H : Hp} {vs : List V} {args : List SV} {Q : VK} {E E' : XK} {o : CO} (h : CPost c H vs args Q E (flatCO o)) : CPost c H vs args Q E' o := by
  cases o with
  | ok r as =>
    unfold flatCO at h
    dsimp only at h
    split at h
    · exact h
    · exact h.elim
  | ex e as => exact h.elim
  | bad => exact h.elim
section
variable {X : Cx} {pins : List (Addr × Obj)} {s : Shared} {σ : L2.St} {H : Hp} {c : SC} {b : Bs} {W : WX} {N : List Str} {sc : Scope} {n m : Nat} {kwT : KwT} {call : Call} {P : PI}
theorem anyO_ok {P : Program} {w : World} {H : Hp} {h : Heap} {a : Addr} {o : Obj} (e : h.get? a = some o) : ObjOk P w H h a (pin o) := ⟨e, trivial, ⟨o, e⟩, fun _ _ _ _ => trivial⟩
/-- the lambda at f runs -/
theorem run_lam (lk : LamK c) (xc : XC c N sc n X) (hm : m ≤ n) {g : Nat} {L : LI} (LR : LamRun c call m g L) {f c' : Addr} {cl : List (Str × Addr)} {pm ctv : Value} {ws : List V} {caps : List D} (I : Inv X pins σ H s) (h2 : H f = some (pin (PySem.W.kla_obj "<lambda>" L.qual L.params L.body L.scope cl pm c' ctv))) (h3 : H c' = some (CodeO c' L.qual))
    (h4 : CellP H cl L.fr ws) (t : RpL c H ws caps) (fc : flatL caps = true) {us : List Value} {vs : List V} (r : Vals vs us) {Q : VK} {E : XK} (h : spF c (fun f caps as => if as.all flatSV = true then flatCO (call f caps as) else .bad) g caps vs H Q E) :
    wpAny (model X.prog X.w) X.A (PySem.call (.ref f) us) (EP X pins σ Q) X.xe s := by
  have at_ : AtCells cl H := fun a ⟨y, e⟩ => h4.all y a e
  have mv := mv_unp at_
  obtain ⟨args, ao, cp⟩ := h
  dsimp only at cp
  have fl : args.all flatSV = true := by
    cases q : args.all flatSV with
    | true => rfl
    | false => rw [q] at cp; exact cp.elim
  rw [if_pos fl] at cp
  have nfr : ∀ a, CellA cl a → a ∉ frs X.stack := fun a i z => by
    obtain ⟨o, v, e, _⟩ := at_ a i
    rw [I.stkFree a z] at e
    cases e
  have obj : ∀ a, CellA cl a → ∃ o v, H a = some (pin o) ∧ o.data = .cell v ∧ s.heap.get? a = some o := fun a i => by
    obtain ⟨o, v, e, d⟩ := at_ a i
    exact ⟨o, v, e, d, (I.hok a _ e).1⟩
  -- the heap without the cells
  have out : ∀ a, H a = none → unpH cl H a = none := fun a e => by
    by_cases i : CellA cl a
    · exact unpH_in i
    · rw [unpH_out i]; exact e
  have hokU : HOk X.prog X.w (unpH cl H) s.heap := fun a o e => by
    have i : ¬ CellA cl a := fun i => by rw [unpH_in i] at e; cases e
    rw [unpH_out i] at e
    exact (I.hok a o e).stay (fun _ _ _ q => q) (fun d q => mv d _ q (fun ob z => by cases z)) fun d xs q => mv d _ q (fun ob z => by cases z)
  have e0 : Env0 c.P c.w c.K c.mg c.base X.A X.stack s (unpH cl H) := by
    have e := I.env0
    rw [← xc.prog, ← xc.w, ← xc.K, ← xc.mg, ← xc.base]
    exact ⟨e.frames, e.mod, fun b o q => ⟨(e.bs b o q).1, out b (e.bs b o q).2⟩, e.bsz, e.funs, fun b hb => out b (e.frf b hb), hokU, e.bare⟩
  have cells : CellsAt cl L.fr (ws.map some) s.heap (unpH cl H) := by
    refine ⟨by rw [List.length_map]; exact h4.len, fun y a e => ?_, h4.inj, fun i y hy => ?_⟩
    · obtain ⟨o, v, e1, e2, e3⟩ := obj a ⟨y, e⟩
      exact ⟨unpH_in ⟨y, e⟩, v, o, e3, e2⟩
    · have hi : i < ws.length := by rw [h4.len]; exact (List.getElem?_eq_some_iff.mp hy).1
      obtain ⟨a, o, u, x1, x2, x3, x4⟩ := h4.has i y ws[i] hy (List.getElem?_eq_getElem hi)
      refine ⟨a, x1, fun v hv => ?_⟩
      rw [List.getElem?_map, List.getElem?_eq_getElem hi] at hv
      have : ws[i] = v := by simpa using hv
      rw [this] at x4
      exact ⟨u, x4, o, (I.hok a _ x2).1, x3⟩
  have sp : spF c call g caps vs (unpH cl H) (fun v H1 => (∀ a, CellA cl a → H1 a = none) → Q v (repH cl H H1)) (fun _ _ _ => False) := by
    refine ⟨args, ⟨ao.len, fun j sv e => ?_, ao.own, ao.apart, tabsN_move mv ao.tabs⟩, ?_⟩
    · obtain ⟨x, e1, e2⟩ := ao.at_ j sv e
      exact ⟨x, e1, e2.move lk mv (List.all_eq_true.mp fl sv (List.mem_of_getElem? e))⟩
    · cases ec : call g caps args with
      | bad => rw [ec] at cp; exact cp.elim
      | ex e as => rw [ec] at cp; exact cp.elim
      | ok q as =>
        rw [ec] at cp
        have cp := flat_call (E' := fun _ _ _ => False) cp
        intro x H1 af rv hc
        have af2 : AfterOk c H (repH cl H H1) vs args as := by
          refine ⟨af.len, fun a o e nm nt => ?_, fun a ps e => ?_, af.tabs.ext repH_ext, fun j mo a e1 e2 => ?_⟩
          · by_cases i : CellA cl a
            · rw [repH_cell (hc a i) i]; exact e
            · exact repH_some (af.fr a o (by rw [unpH_out i]; exact e) nm nt)
          · have i : ¬ CellA cl a := fun i => by
              obtain ⟨o, v, e1, _⟩ := at_ a i
              rw [e] at e1
              cases e1
            obtain ⟨more, z⟩ := af.frT a ps (by rw [unpH_out i]; exact e)
            exact ⟨more, repH_some z⟩
          · obtain ⟨o', z1, z2⟩ := af.mu j mo a e1 e2
            obtain ⟨u, eu, _⟩ := z2.mut
            exact ⟨o', z1, z2.stay ((repH_some eu).trans eu.symm) (.of repH_ext)⟩
        refine cp x _ af2 ?_
        cases q with
        | d v => exact Rp.pers (.of repH_ext) rv
        | n o =>
          obtain ⟨a, ea, mo, na⟩ := rv
          obtain ⟨u, eu, _⟩ := mo.mut
          refine ⟨a, ea, mo.stay ((repH_some eu).trans eu.symm) (.of repH_ext), ?_⟩
          have i : ¬ CellA cl a := fun i => by rw [hc a i] at eu; cases eu
          have na : unpH cl H a = none := na
          rw [unpH_out i] at na
          exact na
        | sl i => exact rv.elim
  have hcode : unpH cl H c' = some (CodeO c' L.qual) := mv c' _ h3 (fun ob z => by cases z)
  have run := LR X.A X.stack s (unpH cl H) f c' cl pm ctv us vs ws caps _ _ (xc.room.mono hm) e0 (I.hok f _ h2).1 hcode cells r (t.move lk mv fc) sp
  rw [← xc.prog, ← xc.w] at run
  refine wpAny_call (codeAny_mono run fun r s' hq => ?_)
  cases r with
  | error e =>
    obtain ⟨_, _, _, _, _, _, _, _, _, _, _, _, z⟩ := hq
    exact z.elim
  | ok flw =>
    cases flw with
    | ret u =>
      obtain ⟨v, H1, os, bare, un, hok, rv, q⟩ := hq
      have hc : ∀ a, CellA cl a → H1 a = none := fun a i => by
        obtain ⟨o, v, _, _, e⟩ := obj a i
        exact un.free a o e (unpH_in i) (by simp)
      have hkeep : ∀ a, CellA cl a → ∀ o, s.heap.get? a = some o → s'.heap.get? a = some o := fun a i o e => un.keep a o e (unpH_in i) (nfr a i) (by simp)
      have ncell : ∀ a, H a = none → ¬ CellA cl a := fun a e i => by
        obtain ⟨o, v, e1, _⟩ := at_ a i
        rw [e] at e1
        cases e1
      have un2 : Un (frs X.stack) [] H (repH cl H H1) s.heap s'.heap := by
        refine ⟨fun b o e nn hb hx => un.keep b o e (out b nn) hb hx, fun b o e nn hb hx => un.slot b o e (out b nn) hb hx, fun b o e nn hx => repH_none (un.free b o e (out b nn) hx) (ncell b nn), un.there, fun b xs e => ?_, fun b o u e => ?_, fun b ps e => ?_⟩
        · exact repH_some (un.tups b xs (mv b _ e fun ob z => by cases z))
        · by_cases i : CellA cl b
          · rw [repH_cell (hc b i) i]; exact e
          · exact repH_some (un.frzs b o u (by rw [unpH_out i]; exact e))
        · obtain ⟨more, z⟩ := un.tbls b ps (mv b _ e fun ob z => by cases z)
          exact ⟨more, repH_some z⟩
      have hok2 : HOk X.prog X.w (repH cl H H1) s'.heap := fun a o e => by
        cases e1 : H1 a with
        | some o1 =>
          rw [repH_some e1] at e
          cases e
          exact (hok a _ e1).stay (fun _ _ _ q => q) (fun d q => repH_some q) fun d xs q => repH_some q
        | none =>
          by_cases i : CellA cl a
          · rw [repH_cell e1 i] at e
            obtain ⟨o2, v, e2, _, e3⟩ := obj a i
            rw [e] at e2
            cases e2
            exact anyO_ok (hkeep a i _ e3)
          · rw [repH_none e1 i] at e
            cases e
      obtain ⟨hh, gg, dd, tt, os'⟩ := s'
      obtain rfl : os' = s.os := os
      exact ⟨v, repH cl H H1, I.call (h' := hh) (g' := gg) (d' := dd) (t' := tt) (ch := []) un2 hok2 bare (fun b z => absurd z (by simp)), rv, q hc⟩
    | next => exact False.elim hq
    | brk => exact False.elim hq
    | cont => exact False.elim hq
end
end Fl
set_option Elab.async false
set_option linter.all false
set_option maxRecDepth 100000
set_option maxHeartbeats 16000000
/-! Layer F, part 28: a local name called. -/
namespace Fl
open PySem PySem.Spec PyProof.Rows L2 NdefX LamX
section
variable {X : Cx} {pins : List (Addr × Obj)} {s : Shared} {σ : L2.St} {ρs ρ : Env} {Hs H : Hp} {c : SC} {b : Bs} {W : WX} {N : List Str} {sc : Scope} {n m : Nat} {kwT : KwT} {call : Call} {P : PI}
theorem calling_runP {Q : VK} {f : Nat} {caps : List D} {xs : List V} {rs : List RV} (I : Inv X pins σ H s) (r0 : ER c b σ ρs Hs) (r : ER c b σ ρ H) (st : Stp σ ρs Hs ρ H) (v : RvL c σ Hs H xs rs)
    (hq : Post c b W σ (Rv c σ) ρs Hs (calling P call f caps rs ρ) Q) : ∃ H2, Inv X pins σ H2 s ∧ Pers H H2 ∧ spF c call f caps xs H2 Q (fun cls d H' => W cls d σ H') := by
  unfold calling at hq
  cases e1 : restA (P.byRef f) 0 rs ρ with
  | bad => rw [e1] at hq; exact hq.elim
  | ex e ρ1 => exact absurd e1 restA_noex
  | ok qs ρ1 =>
    rw [e1] at hq
    have hq : Post c b W σ (Rv c σ) ρs Hs (if (slotsR qs).Nodup then (match readA ρ1 qs with
      | some vs => back qs ρ1 (call f caps vs)
      | none => .bad) else .bad) Q := hq
    split at hq
    · rename_i nd
      split at hq
      · rename_i args ea
        obtain ⟨H2, I2, r2, st2, n2, P2⟩ := ghostA r0 I r st v e1
        refine ⟨H2, I2, P2, args, args_ok r2 n2 nd ea, ?_⟩
        cases ec : call f caps args with
        | bad => rw [ec] at hq; exact hq
        | ok q as =>
          rw [ec] at hq
          intro x H' af hx
          obtain ⟨r3, s3⟩ := after_ok r2 n2 nd ea af
          refine hq x H' r3 (st2.trans s3) ?_
          cases q with
          | d v => exact hx
          | n o => obtain ⟨a, e, m, n⟩ := hx; exact ⟨a, e, m, st2.tr a n⟩
          | sl i => exact hx.elim
        | ex e as =>
          rw [ec] at hq
          intro cls d H' af hx
          obtain ⟨r3, s3⟩ := after_ok r2 n2 nd ea af
          exact hq cls d H' r3 (st2.trans s3) hx
      · exact hq.elim
    · exact hq.elim
/-- what every function value gives -/
structure FnV (c : SC) (kwT : KwT) (call : Call) (m : Nat) : Prop where
  d : ∀ k, c.isDef k = true → ∃ ps, DefOk c kwT call m k ps
  l : ∀ g L, c.lam g = some L → LamRun c call m g L
  lk : LamK c
theorem spF_app {g : Nat} {caps : List D} {vs : List V} {Q : VK} {E : XK} (h : spF c (fun f caps as => if as.all flatSV = true then flatCO (call f caps as) else .bad) g caps vs H Q E) : spF c call g caps vs H Q E := by
  obtain ⟨args, ao, cp⟩ := h
  refine ⟨args, ao, ?_⟩
  dsimp only at cp
  split at cp
  · exact flat_call cp
  · exact cp.elim
/-- a function value runs -/
theorem run_val (xc : XC c N sc n X) (V0 : FnV c kwT call m) (hm : m ≤ n) (hx : PassW X W) {x : V} {u : Value} {g : Nat} {cs : List D} (I : Inv X pins σ H s) (rx : L2.RelV x u) (h : Rp c H x (.fn g cs)) (fc : flatL cs = true) {us : List Value} {vs : List V} (r : Vals vs us) {Q : VK}
    (sp : spF c (fun f caps as => if as.all flatSV = true then flatCO (call f caps as) else .bad) g cs vs H Q (fun cls d H' => W cls d σ H')) : wpAny (model X.prog X.w) X.A (PySem.call u us) (EP X pins σ Q) X.xe s := by
  cases h with
  | fnG hd =>
    cases rx
    obtain ⟨ps, D⟩ := V0.d g hd
    exact run_def D xc hm hx I r (spF_app sp)
  | fnL h1 h2 h3 h4 t =>
    cases rx
    exact run_lam V0.lk xc hm (V0.l g _ h1) I h2 h3 h4 t fc r sp
theorem fn_at (xc : XC c N sc n X) (I : Inv X pins σ H s) {f : Addr} {g : Nat} {cs : List D} (h : Rp c H (.ref f) (.fn g cs)) (hd : ∀ k, c.isDef k = true → PySem.W.keepIn c.K (.ref (c.fnA k)) = true) : PySem.W.keepIn X.K (.ref f) = true ∨ ∃ oc od fd sl, H f = some (pin ⟨oc, od, .func fd, sl⟩) := by
  cases h with
  | fnG h => exact .inl (by rw [xc.K]; exact hd g h)
  | fnL h1 h2 h3 h4 t => exact .inr ⟨_, _, _, _, h2⟩
theorem fd_app (xc : XC c N sc n X) (V0 : FnV c kwT call m) (hm : m ≤ n) (hx : PassW X W) {x : Str} {i : Nat} {p pos : Pos} {e : Expr} {es : List Expr} {d : Den} (hN : N[i]? = some x) (hv : Vis sc x) (hd : (x == ("__debug__" : Str)) = false) (hcd : (x == ("__classdict__" : Str)) = false)
    (hs : (e :: es).all notStar = true) (ha : PA X (e :: es) (tFL c b W d.l)) : FD c b W X (.Call (.Name x p) (e :: es) [] pos) (vDen fun ρ => match ρ[i]? with
    | some (some (.d (.fn _ _))) => (d.l ρ).bind fun rs ρ1 => (match ρ1[i]? with
      | some (some (.d (.fn g cs))) => if flatL cs = true then calling P (fun f caps as => if as.all flatSV = true then flatCO (call f caps as) else .bad) g cs rs ρ1 else .bad
      | _ => .bad)
    | _ => .bad) := by
  have hs' := hs
  rw [List.all_cons, Bool.and_eq_true] at hs'
  have keep : ∀ k, c.isDef k = true → PySem.W.keepIn c.K (.ref (c.fnA k)) = true := fun k hk => by
    obtain ⟨ps, D⟩ := V0.d k hk
    exact D.kp
  refine fd_plain xc ⟨fun pins s σ H Q I h => ?_⟩ fun _ => rfl
  obtain ⟨ρ, r, hq⟩ := h
  dsimp only at hq
  split at hq
  · rename_i g0 cs0 e0
    obtain ⟨xv, e1, q0⟩ := r.slot i _ e0
    have q0 : Rp c H xv (.fn g0 cs0) := q0
    obtain ⟨f, rfl⟩ : ∃ f, xv = .ref f := by
      cases q0 <;> exact ⟨_, rfl⟩
    refine wpAny_Call_Name_kw (thn ((pe_var (pos := p) (i := i) (X := X) (by rw [xc.nm]; exact hN) (by rw [xc.sc]; exact hv) hd hcd).run pins s σ H (fun v H1 => v = .ref f ∧ H1 = H) I ⟨.ref f, e1, rfl, rfl⟩) fun u s1 hh => ?_)
    obtain ⟨v, H1, I1, rv, ev, eH⟩ := hh
    subst ev eH
    cases rv
    have h1 : tF c b W (fun ρ => (d.l ρ).bind fun rs ρ1 => (match ρ1[i]? with
      | some (some (.d (.fn g cs))) => if flatL cs = true then calling P (fun f caps as => if as.all flatSV = true then flatCO (call f caps as) else .bad) g cs rs ρ1 else .bad
      | _ => .bad)) σ H1 Q := ⟨ρ, r, hq⟩
    have args := ha.run pos pins s1 σ H1 _ I1 (arg_imp h1)
    have fin : ∀ us s2, AP X pins σ (fun xs H1' => ∃ ρs ρ rs, ER c b σ ρs H1 ∧ ER c b σ ρ H1' ∧ Stp σ ρs H1 ρ H1' ∧ RvL c σ H1 H1' xs rs ∧ d.l ρs = .ok rs ρ ∧ Post c b W σ (Rv c σ) ρs H1 (match ρ[i]? with
      | some (some (.d (.fn g cs))) => if flatL cs = true then calling P (fun f caps as => if as.all flatSV = true then flatCO (call f caps as) else .bad) g cs rs ρ else .bad
      | _ => .bad) Q) us s2 → (∀ o, H1 f = some (pin o) → s2.heap.get? f = some o) ∧ X.K.In s2.heap ∧ wpAny (model X.prog X.w) X.A (PySem.call (.ref f) us) (EP X pins σ Q) X.xe s2 := fun us s2 ⟨vs, H2, I2, rr, ρs, ρ2, rs, r0, r2, st, v2, _, q2⟩ => by
      split at q2
      · rename_i g cs e2
        split at q2
        · rename_i fc
          obtain ⟨H3, I3, P3, sp⟩ := calling_runP I2 r0 r2 st v2 q2
          obtain ⟨x2, e3, q3⟩ := r2.slot i _ e2
          rw [e1] at e3
          cases e3
          have q3 : Rp c H2 (.ref f) (.fn g cs) := q3
          exact ⟨fun o z => (I2.hok f _ (st.pers r0 f _ z rfl)).1, I2.kIn, run_val (x := .ref f) (u := .ref f) xc V0 hm hx I3 rfl (q3.pers P3) fc rr sp⟩
        · exact q2.elim
      · exact q2.elim
    rcases fn_at xc I1 q0 keep with hk | ⟨oc, od, fd, sl, hk⟩
    · exact PySem.W.callWith_K (h₀ := X.base) I.ok.mod.kin hk (thn args fun us s2 z => ⟨(fin us s2 z).2.1, (fin us s2 z).2.2⟩) (star_cons hs'.1) (backTo_plain hs'.2)
    · exact PySem.W.callWith_F (q := f) ⟨oc, od, fd, sl, (I1.hok f _ hk).1⟩ (thn args fun us s2 z => ⟨⟨oc, od, fd, sl, (fin us s2 z).1 _ hk⟩, (fin us s2 z).2.2⟩) (star_cons hs'.1) (backTo_plain hs'.2)
  · exact hq.elim
end
end Fl
set_option Elab.async false
set_option linter.all false
set_option maxRecDepth 100000
set_option maxHeartbeats 16000000
/-! Layer F, part 29: a lambda made as the last argument. -/
namespace Fl
open PySem PySem.Spec PyProof.Rows L2 NdefX LamX
/-- a list of arguments with one more behind it -/
structure PAS (X : Cx) (l : List Expr) (e : Expr) (t : TA) : Prop where
  run : ∀ (pos : Pos) (pins : List (Addr × Obj)) (s : Shared) (σ : L2.St) (H : Hp) (Q : List V → Hp → Prop) (QQ : List Value → Shared → Prop), Inv X pins σ H s → t σ H Q →
    (∀ us s1 vs H1, Inv X pins σ H1 s1 → Vals vs us → Q vs H1 → wpAny (model X.prog X.w) X.A (eval e X.env) (fun v s2 => QQ (us ++ [v]) s2) X.xe s1) →
    wpAny (model X.prog X.w) X.A (spliced (backTo pos (starEach (l ++ [e]) X.env))) QQ X.xe s
section
variable {X : Cx} {pins : List (Addr × Obj)} {s : Shared} {σ : L2.St} {ρs ρ : Env} {Hs H : Hp} {c : SC} {b : Bs} {W : WX} {N : List Str} {sc : Scope} {n m : Nat} {kwT : KwT} {call : Call} {P : PI} {T : Tab}
theorem pas_nil {e : Expr} (he : notStar e = true) : PAS X [] e tNil := ⟨fun pos pins s σ H Q QQ I h k => by
  show wpAny _ _ (spliced (backTo pos (starEach [e] X.env))) _ _ _
  rw [star_cons he]
  show wpAny _ _ (spliced ((false, eval e X.env) :: backTo pos (starEach [] X.env))) _ _ s
  refine Calls.spliced_cons (thn (k [] s [] H I .nil h) fun v s1 q => ?_)
  exact Calls.spliced_nil q⟩
theorem pas_cons {e1 e : Expr} {l : List Expr} {te : TE} {t : TA} (h1 : PE X e1 te) (hs : notStar e1 = true) (hl : PAS X l e t) : PAS X (e1 :: l) e (tCons te t) := ⟨fun pos pins s σ H Q QQ I h k => by
  show wpAny _ _ (spliced (backTo pos (starEach (e1 :: (l ++ [e])) X.env))) _ _ _
  rw [star_cons hs]
  show wpAny _ _ (spliced ((false, eval e1 X.env) :: backTo pos (starEach (l ++ [e]) X.env))) _ _ s
  refine Calls.spliced_cons (thn (h1.run pins s σ H _ I h) fun u s1 ⟨x, H1, I1, r1, q1⟩ => ?_)
  exact hl.run pos pins s1 σ H1 _ (fun us s2 => QQ (u :: us) s2) I1 q1 fun us s2 vs H2 I2 r q => k (u :: us) s2 (x :: vs) H2 I2 (.cons r1 r) q⟩
theorem PAS.imp {l : List Expr} {e : Expr} {t t' : TA} (h : PAS X l e t) (i : ∀ σ H Q, t' σ H Q → t σ H Q) : PAS X l e t' := ⟨fun pos pins s σ H Q QQ I q k => h.run pos pins s σ H Q QQ I (i σ H Q q) k⟩
theorem mapE_pas {f : Expr → Option E} (hf : Snd c b W X P call f) {e : Expr} (he : notStar e = true) : ∀ {es : List Expr} {l : E}, mapE f es = some l → LamsIn c l → es.all notStar = true → PAS X es e (tFL c b W (den P call l).l)
  | [], l, h, _, _ => by
    cases h
    exact PAS.imp (pas_nil he) fun σ H Q ⟨ρ, r, hq⟩ => hq [] H r (.refl ..) .nil
  | e1 :: es, l, h, hl, hs => by
    unfold mapE at h
    split at h
    · rename_i a r e1' e2
      cases h
      rw [List.all_cons, Bool.and_eq_true] at hs
      exact PAS.imp (pas_cons (hf _ a e1' hl.cons.1).v hs.1 (mapE_pas hf he e2 hl.cons.2 hs.2)) fun σ H Q hq => cons_imp hq
    · cases h
/-! ### the lambda is made, the cells are pinned, the call runs -/
theorem restA_snoc {br : Nat → Bool} {v : D} : ∀ {rs : List RV} {j : Nat} {ρ ρ' : Env} {qs : List RV}, restA br j (rs ++ [.d v]) ρ = .ok qs ρ' → ∃ qs', restA br j rs ρ = .ok qs' ρ' ∧ qs = qs' ++ [.d v]
  | [], j, ρ, ρ', qs, h => by
    have h : restA br j [.d v] ρ = .ok qs ρ' := h
    unfold restA at h
    cases h
    exact ⟨[], rfl, rfl⟩
  | r :: rs, j, ρ, ρ', qs, h => by
    have h : restA br j (r :: (rs ++ [.d v])) ρ = .ok qs ρ' := h
    unfold restA at h ⊢
    split at h
    · rename_i i hb hz
      obtain ⟨q1, ρ1, e1, e2⟩ := R.bind_ok h
      obtain ⟨q2, f1, rfl⟩ := restA_snoc e1
      cases e2
      exact ⟨.sl i :: q2, by rw [f1]; rfl, rfl⟩
    · rename_i hne
      obtain ⟨d, ρ1, e1, e2⟩ := R.bind_ok h
      obtain ⟨q1, ρ2, e3, e4⟩ := R.bind_ok e2
      obtain ⟨q2, f1, rfl⟩ := restA_snoc e3
      cases e4
      refine ⟨.d d :: q2, ?_, rfl⟩
      rw [e1]
      show ((restA br (j + 1) rs ρ1).bind _) = _
      rw [f1]
      rfl
theorem tb_snoc {v v' : D} : ∀ {qs : List RV} {as : List SV} {ρ : Env}, takeBack (qs ++ [.d v]) as ρ = takeBack (qs ++ [.d v']) as ρ
  | [], [], ρ => by unfold takeBack; rfl
  | [], a :: as, ρ => by
    show takeBack [.d v] (a :: as) ρ = takeBack [.d v'] (a :: as) ρ
    unfold takeBack
    unfold takeBack
    cases as <;> rfl
  | q :: qs, [], ρ => by unfold takeBack; rfl
  | q :: qs, a :: as, ρ => by
    show takeBack (q :: (qs ++ [.d v])) (a :: as) ρ = takeBack (q :: (qs ++ [.d v'])) (a :: as) ρ
    unfold takeBack
    split
    · split
      · exact tb_snoc
      · exact tb_snoc
    · exact tb_snoc
theorem RvN.snoc {x : V} {v : D} (h : Rp c H x v) : ∀ {xs : List V} {qs : List RV}, RvN c σ H xs qs → RvN c σ H (xs ++ [x]) (qs ++ [.d v])
  | _, _, .nil => .d h .nil
  | _, _, .d q t => .d q (RvN.snoc h t)
  | _, _, .sl q t => .sl q (RvN.snoc h t)
theorem readA_snoc {v : D} : ∀ {qs : List RV} {args : List SV}, readA ρ (qs ++ [.d v]) = some args → ∃ as, readA ρ qs = some as ∧ args = as ++ [.d v]
  | [], args, h => by cases h; exact ⟨[], rfl, rfl⟩
  | q :: qs, args, h => by
    have h : readA ρ (q :: (qs ++ [.d v])) = some args := h
    unfold readA at h ⊢
    have go : ∀ {a : SV}, (readA ρ (qs ++ [.d v])).map (a :: ·) = some args → ∃ as, (readA ρ qs).map (a :: ·) = some as ∧ args = as ++ [.d v] := fun {a} h => by
      cases e : readA ρ (qs ++ [.d v]) with
      | none => rw [e] at h; cases h
      | some vs =>
        rw [e] at h
        cases h
        obtain ⟨as, f1, rfl⟩ := readA_snoc e
        exact ⟨a :: as, by rw [f1]; rfl, rfl⟩
    split at h
    · exact go h
    · split at h
      · exact go h
      · exact go h
      · cases h
    · cases h
theorem readA_snoc' {v : D} : ∀ {qs : List RV} {as : List SV}, readA ρ qs = some as → readA ρ (qs ++ [.d v]) = some (as ++ [.d v])
  | [], as, h => by cases h; rfl
  | q :: qs, as, h => by
    show readA ρ (q :: (qs ++ [.d v])) = _
    unfold readA at h ⊢
    have go : ∀ {a : SV}, (readA ρ qs).map (a :: ·) = some as → (readA ρ (qs ++ [.d v])).map (a :: ·) = some (as ++ [.d v]) := fun {a} h => by
      cases e : readA ρ qs with
      | none => rw [e] at h; cases h
      | some vs =>
        rw [e] at h
        cases h
        rw [readA_snoc' e]
        rfl
    split at h
    · exact go h
    · split at h
      · exact go h
      · exact go h
      · cases h
    · cases h
end
end Fl
set_option Elab.async false
set_option linter.all false
set_option maxRecDepth 100000
set_option maxHeartbeats 16000000
/-! Layer F, part 30: the making of a lambda, told with its tables. -/
namespace Fl
open PySem PySem.Spec PyProof.Rows L2 NdefX LamX
section
variable {X : Cx} {pins : List (Addr × Obj)} {σ : L2.St} {H : Hp} {s : Shared}
theorem lam_makeN {T : List NTab} {nm : Nat → Nat → Str} {c P : Addr} {params : Arguments} {body : Expr} {scope : Scope} {pos : Pos} {E : Value → Shared → Prop} {Q : Value → Shared → Prop} (I : Inv X pins σ H s) (TB : TabB X.base X.mg c P) (hcode : X.env.code = .ref c)
    (hm : (P, nm) ∈ T) (hn : nm pos.line pos.col = X.env.qual ++ "<lambda>") (hu : ∀ p ∈ T, p.1 = P → p.2 = nm) (hT : TabsN T H) (hdef : defaultsOf params X.env = ([], [])) (hfree : ∀ y ∈ scope.names, y.2 = .free → ∃ c, X.env.cells.lookup y.1 = some c)
    (h : ∀ (f c' : Addr) (pm ctv : Value) (H1 : Hp) (s' : Shared), Inv X pins σ H1 s' → ExtN H H1 → (∀ b, H1 b = Option.none → H b = Option.none) → TabsN T H1 →
      s'.heap.get? f = some (PySem.W.kla_obj "<lambda>" (X.env.qual ++ "<lambda>") params body scope (cloFrom X.env.cells scope.names []) pm c' ctv) → H1 f = none → f ∉ frs X.stack → H1 c' = some (CodeO c' (X.env.qual ++ "<lambda>")) → s.heap.objs.size ≤ f → Q (.ref f) s') :
    wpAny (model X.prog X.w) X.A (eval (.Lambda params body scope pos) X.env) Q E s := by
  obtain ⟨ps, hP, ht, ha⟩ := (show TabN H P nm from hT _ hm)
  refine PySem.W.kla_eval hdef ?_
  have bP : s.heap.BuiltinsAt X.mg P := TB.bm.keeps I.bk
  have hP' : s.heap.get? P = some { cls := .none, data := .fields ps } := I.hok P _ hP
  have nofr : ∀ f, s.heap.objs.size ≤ f → f ∉ frs X.stack := fun f hf z => by
    rcases List.mem_cons.mp (I.stkSub _ z) with e | e
    · have h1 := I.lt
      rw [← e] at h1
      exact Nat.lt_irrefl _ (Nat.lt_of_lt_of_le h1 hf)
    · exact I.nofs hf e
  cases hc : codeAmong pos ps.toList with
  | none =>
    refine PySem.W.kla_makeFunction (mg := X.mg) (c := c) (P := P) (ps := ps) (closure_ok hfree) I.ok.glob (I.mod.glob.keeps I.bk) hcode (TB.code.keeps I.bk) hP' ht hc TB.gP bP fun c' ctv h' tk hx hge hlt hrec htb => ?_
    obtain ⟨c2, oc, vs, t, e2, hoc, hd, hv⟩ := hrec
    cases e2
    have hsz : s.heap.objs.size ≤ h'.objs.size := Nat.le_trans hge (Nat.le_of_lt hlt)
    have nC : H c' = none := I.hok.fresh hge
    have I1 := inv_table (t' := tk) (more := #[rawInt pos.line, rawInt pos.col, .ref c']) (h' := h'.push (PySem.W.kla_obj "<lambda>" (X.env.qual ++ "<lambda>") params body scope (cloFrom X.env.cells scope.names []) ((X.mg "__name__").getD .none) c' ctv)) I hP
      (fun b o hb e => Heap.get?_push_of_some _ (hx b o hb e)) (Heap.get?_push_of_some _ htb) hge ⟨oc, vs, t, Heap.get?_push_of_some _ hoc, hd, hv⟩
    have hE : ExtN H (upd (upd H P (.tbl (ps ++ #[rawInt pos.line, rawInt pos.col, .ref c']))) c' (CodeO c' (X.env.qual ++ "<lambda>"))) := fun b o e n => by
      rw [upd_ne (ne_of_none e nC), upd_ne (fun z => n ps (Option.some.inj (e.symm.trans (by rw [z]; exact hP))))]
      exact e
    have eL : (ps ++ #[rawInt pos.line, rawInt pos.col, .ref c']).toList = ps.toList ++ [rawInt pos.line, rawInt pos.col, .ref c'] := by simp
    refine h h'.objs.size c' ((X.mg "__name__").getD .none) ctv _ _ I1 hE (fun b e => upd_none (upd_none e)) (fun p hp => ?_) (Heap.get?_push_size _ rfl) ?_ (nofr _ hsz) upd_same hsz
    · by_cases hb : p.1 = P
      · rw [hu p hp hb, hb]
        refine ⟨_, by rw [upd_ne (ne_of_none hP nC), upd_same], by rw [eL]; exact PySem.TriplesOk_snoc _ _ _ _ ht, fun p' cv hcv => ?_⟩
        rw [eL] at hcv
        rcases among_app2 _ ht hcv with z | ⟨z, e1, e2⟩
        · obtain ⟨c0, e1, e2⟩ := ha p' cv z
          exact ⟨c0, e1, hE _ _ e2 codeO_ne⟩
        · refine ⟨c', z, ?_⟩
          rw [← e1, ← e2, hn]
          exact upd_same
      · obtain ⟨ps', a1, a2, a3⟩ := hT p hp
        refine ⟨ps', by rw [upd_ne (ne_of_none a1 nC), upd_ne hb]; exact a1, a2, fun p' cv hcv => ?_⟩
        obtain ⟨c0, e1, e2⟩ := a3 p' cv hcv
        exact ⟨c0, e1, hE _ _ e2 codeO_ne⟩
    · have n1 : h'.objs.size ≠ c' := Nat.ne_of_gt hlt
      have n2 : h'.objs.size ≠ P := Nat.ne_of_gt (Nat.lt_of_lt_of_le (Heap.lt_size hP') hsz)
      rw [upd_ne n1, upd_ne n2]
      exact I.hok.fresh hsz
  | some cv =>
    obtain ⟨c', e, hco⟩ := ha pos cv hc
    subst e
    rw [hn] at hco
    refine PySem.W.kla_makeFunctionHit (mg := X.mg) (c := c) (P := P) (ps := ps) (closure_ok hfree) I.ok.glob (I.mod.glob.keeps I.bk) hcode (TB.code.keeps I.bk) hP' ht hc bP fun ctv h' tk hx hsz => ?_
    have I1 : Inv X pins σ H { s with heap := h'.push (PySem.W.kla_obj "<lambda>" (X.env.qual ++ "<lambda>") params body scope (cloFrom X.env.cells scope.names []) ((X.mg "__name__").getD .none) c' ctv), toks := tk } := I.kept fun b o e => Heap.get?_push_of_some _ (hx b o e)
    exact h h'.objs.size c' ((X.mg "__name__").getD .none) ctv H _ I1 (ExtN.refl H) (fun _ e => e) hT (Heap.get?_push_size _ rfl) (I.hok.fresh hsz) (nofr _ hsz) hco hsz
end
/-! ### pins, by a set -/
open Classical in
/-- the objects of S pinned as they stand in h -/
noncomputable def pinS (S : Addr → Prop) (h : Heap) (H : Hp) : Hp := fun a => if S a then (h.get? a).map pin else H a
open Classical in
/-- let go -/
noncomputable def unpS (S : Addr → Prop) (H : Hp) : Hp := fun a => if S a then none else H a
section
variable {S : Addr → Prop} {h : Heap} {H : Hp} {a : Addr}
theorem pinS_in (i : S a) : pinS S h H a = (h.get? a).map pin := by unfold pinS; rw [if_pos i]
theorem pinS_out (i : ¬ S a) : pinS S h H a = H a := by unfold pinS; rw [if_neg i]
theorem unpS_in (i : S a) : unpS S H a = none := by unfold unpS; rw [if_pos i]
theorem unpS_out (i : ¬ S a) : unpS S H a = H a := by unfold unpS; rw [if_neg i]
theorem mv_unpS (k : ∀ a, S a → ∃ o, H a = some (pin o)) : Mv H (unpS S H) := fun a o e n => by
  by_cases i : S a
  · obtain ⟨o', e1⟩ := k a i
    rw [e] at e1
    cases e1
    exact absurd rfl (n o')
  · rw [unpS_out i]; exact e
theorem pinS_ext (k : ∀ a, S a → H a = none) : ∀ b o, H b = some o → pinS S h H b = some o := fun b o e => by
  rw [pinS_out fun i => by rw [k b i] at e; cases e]
  exact e
end
section
variable {X : Cx} {pins : List (Addr × Obj)} {s : Shared} {σ : L2.St} {ρ : Env} {H H' : Hp} {c : SC} {b : Bs}
/-- all but the tables stay: the environment stands -/
theorem ER.extN (r : ER c b σ ρ H) (e : ExtN H H') (t : TabsN c.T H') (ft : ∀ a ps, b.H0 a = some (.tbl ps) → ∃ more, H' a = some (.tbl (ps ++ more))) : ER c b σ ρ H' := by
  have P : Pers H H' := fun a o h p => e a o h (per_tbl p)
  refine ⟨r.len, fun i sv h => ?_, r.apart, r.own, r.par, r.parB, fun a o h n q => e a o (r.fr a o h n q) q, ft, t⟩
  obtain ⟨x, e1, q⟩ := r.slot i sv h
  refine ⟨x, e1, ?_⟩
  cases sv with
  | d v => exact Rp.pers P q
  | m w o =>
    obtain ⟨a, ea, q⟩ := q
    obtain ⟨u, eu, _, _, nt⟩ := q.mut
    exact ⟨a, ea, q.stay ((e a u eu nt).trans eu.symm) P⟩
theorem Stp.extN {ρs ρ : Env} {Hs : Hp} (st : Stp σ ρs Hs ρ H) (e : ExtN H H') (nn : ∀ b, H' b = none → H b = none) : Stp σ ρs Hs ρ H' :=
  ⟨fun a o h m q => e a o (st.fr a o h m q) q, st.sh, fun a h => st.tr a (nn a h)⟩
end
end Fl
set_option Elab.async false
set_option linter.all false
set_option maxRecDepth 100000
set_option maxHeartbeats 16000000
/-! Layer F, part 31: a call with a lambda as its last argument. -/
namespace Fl
open PySem PySem.Spec PyProof.Rows L2 NdefX LamX
section
variable {X : Cx} {pins : List (Addr × Obj)} {s s' : Shared} {σ : L2.St} {ρs ρ : Env} {Hs H H' : Hp} {c : SC} {b : Bs} {W : WX} {N : List Str} {sc : Scope} {n m : Nat} {kwT : KwT} {call : Call} {P : PI} {T : Tab}
theorem caps_ok (r : ER c b σ ρ H) : ∀ {cs : List Nat} {caps : List D}, capsOf ρ cs = some caps → ∃ ws, ws.length = cs.length ∧ RpL c H ws caps ∧ ∀ (i j : Nat) (v : V), cs[i]? = some j → ws[i]? = some v → σ[j]? = some (some v)
  | [], caps, h => by cases h; exact ⟨[], rfl, .nil, fun i j v e => by simp at e⟩
  | k :: cs, caps, h => by
    unfold capsOf at h
    split at h
    · rename_i v vs e1 e2
      cases h
      obtain ⟨ws, l, t, hh⟩ := caps_ok r e2
      obtain ⟨x, ex, rx⟩ := r.slot k _ e1
      refine ⟨x :: ws, by rw [List.length_cons, List.length_cons, l], .cons rx t, fun i j v e f => ?_⟩
      cases i with
      | zero => simp at e f; subst e f; exact ex
      | succ i => exact hh i j v (by simpa using e) (by simpa using f)
    · cases h
/-- the captured cells, pinned -/
theorem cellP_made (I : Inv X pins σ H s) {scope : Scope} {fr : List Str} {cs : List Nat} {ws : List V} (hN : ∀ (i : Nat) (y : Str), fr[i]? = some y → ∃ j, cs[i]? = some j ∧ X.N[j]? = some y) (hl : ws.length = fr.length) (hfr : ∀ y ∈ fr, (y, NameKind.free) ∈ scope.names) (hsub : ∀ y, (y, NameKind.free) ∈ scope.names → y ∈ fr)
    (hk : ∀ y ∈ fr, X.env.scope.names.lookup y = some .cell ∨ X.env.scope.names.lookup y = some .free) (hw : ∀ (i j : Nat) (v : V), cs[i]? = some j → ws[i]? = some v → σ[j]? = some (some v)) (pinned : ∀ y a, X.env.cells.lookup y = some a → ∀ o, s.heap.get? a = some o → CellA (cloFrom X.env.cells scope.names []) a → H' a = some (pin o)) :
    CellP H' (cloFrom X.env.cells scope.names []) fr ws := by
  have hfree : ∀ y ∈ scope.names, y.2 = .free → ∃ c, X.env.cells.lookup y.1 = some c := fun y hy e => by
    have hm : (y.1, NameKind.free) ∈ scope.names := by rw [← e]; exact hy
    rcases hk y.1 (hsub y.1 hm) with k | k
    · exact I.ok.has _ (.inl k)
    · exact I.ok.has _ (.inr k)
  refine ⟨hl, fun y a e => ?_, fun x y a e1 e2 => I.ok.inj x y a (clo_cm hfree e1) (clo_cm hfree e2), fun i y v e1 e2 => ?_, fun y a e => ?_⟩
  · have e' := clo_cm hfree e
    obtain ⟨v, o, ho, hd⟩ := I.cell y a e'
    exact ⟨o, v, pinned y a e' o ho ⟨y, e⟩, hd⟩
  · have hy := List.mem_of_getElem? e1
    obtain ⟨a, ha⟩ : ∃ a, X.env.cells.lookup y = some a := (hk y hy).elim (fun z => I.ok.has y (.inl z)) fun z => I.ok.has y (.inr z)
    obtain ⟨j, hj, hNj⟩ := hN i y e1
    obtain ⟨mm, hn, hll⟩ := I.loc
    obtain ⟨u, r, l⟩ := hll j y v hNj (hw i j v hj e2) ((hk y hy).elim (fun z => .inr (.inl z)) fun z => .inr (.inr z))
    rcases l with ⟨z, _⟩ | ⟨_, a', ha', o, ho, hd⟩
    · have z' : X.env.scope.names.lookup y = some .local := z
      rcases hk y hy with k | k <;> rw [k] at z' <;> cases z'
    · rw [ha] at ha'
      cases ha'
      have hc := clo_has hfree (hfr y hy) ha
      exact ⟨a, o, u, hc, pinned y a ha o ho ⟨y, hc⟩, hd, r⟩
  · rcases cloFrom_mem (PySem.mem_of_lookup e) with hm | ⟨h1, _⟩
    · cases hm
    · exact hsub y h1
theorem slotsR_snoc {v : D} : ∀ {qs : List RV}, slotsR (qs ++ [.d v]) = slotsR qs
  | [] => rfl
  | .sl i :: qs => by show i :: slotsR (qs ++ [.d v]) = i :: slotsR qs; rw [slotsR_snoc]
  | .d _ :: qs => by show slotsR (qs ++ [.d v]) = slotsR qs; exact slotsR_snoc
  | .n _ :: qs => by show slotsR (qs ++ [.d v]) = slotsR qs; exact slotsR_snoc
/-- the call, the lambda made -/
theorem lam_call (xc : XC c N sc n X) (lk : LamK c) (hm : m ≤ n) (hfn : ∀ x, X.fn x = true) {k g : Nat} {ps : List Str} (D0 : DefOk c kwT call m k ps) {L : LI} (hL : c.lam g = some L) {f c' : Addr} {cl : List (Str × Addr)} {pm ctv : Value} {us : List Value} {xs ws : List V} {qs : List RV} {caps : List D} {Q : VK} {as0 : List SV}
    (I : Inv X pins σ H s) (r0 : ER c b σ ρs Hs) (r : ER c b σ ρ H) (st : Stp σ ρs Hs ρ H) (nn : RvN c σ H xs qs) (rv : Vals xs us) (hf : s.heap.get? f = some (PySem.W.kla_obj "<lambda>" L.qual L.params L.body L.scope cl pm c' ctv)) (hfn1 : H f = none) (hfr : f ∉ frs X.stack) (hbase : X.base.get? f = none) (hcode : H c' = some (CodeO c' L.qual))
    (hcl : ∀ a, CellA cl a → ∃ y, X.env.cells.lookup y = some a) (hcp : ∀ H', (∀ y a, X.env.cells.lookup y = some a → ∀ o, s.heap.get? a = some o → CellA cl a → H' a = some (pin o)) → CellP H' cl L.fr ws) (ht : RpL c H ws caps) (nd : (slotsR qs).Nodup) (ea : readA ρ qs = some as0)
    (hq : Post c b W σ (Rv c σ) ρs Hs (back (qs ++ [.d (.fn g caps)]) ρ (flatCO (call k [] (as0 ++ [.d (.fn g caps)])))) Q) :
    wpAny (model X.prog X.w) X.A (PySem.call (.ref (c.fnA k)) (us ++ [.ref f])) (EP X pins σ Q) X.xe s := by
  -- what is pinned
  generalize hS : (fun a => CellA cl a ∨ a = f) = S
  have S1 : ∀ a, CellA cl a → S a := fun a h => by rw [← hS]; exact .inl h
  have S2 : S f := by rw [← hS]; exact .inr rfl
  have S3 : ∀ a, S a → CellA cl a ∨ a = f := fun a h => by rw [← hS] at h; exact h
  have Sn : ∀ a, S a → H a = none := fun a h => by
    rcases S3 a h with h | h
    · obtain ⟨y, e⟩ := hcl a h
      exact I.freeC y a e
    · rw [h]; exact hfn1
  have Sg : ∀ a, S a → ∃ o, s.heap.get? a = some o := fun a h => by
    rcases S3 a h with h | h
    · obtain ⟨y, e⟩ := hcl a h
      obtain ⟨v, o, ho, _⟩ := I.cell y a e
      exact ⟨o, ho⟩
    · rw [h]; exact ⟨_, hf⟩
  have Sfr : ∀ a, S a → a ∉ frs X.stack := fun a h z => by
    rcases S3 a h with h | h
    · obtain ⟨y, e⟩ := hcl a h
      rcases List.mem_cons.mp (I.stkSub a z) with z | z
      · exact I.cne y a e z
      · obtain ⟨_, o, ho, _⟩ := I.ok.funs.mem z
        exact absurd (Nat.lt_of_lt_of_le (Heap.lt_size ho) (I.ok.cab y a (hfn y) e)) (Nat.lt_irrefl _)
    · rw [h] at z; exact hfr z
  have Sb : ∀ a, S a → X.base.get? a = none := fun a h => by
    rcases S3 a h with h | h
    · obtain ⟨y, e⟩ := hcl a h
      exact Heap.get?_none_of_le (Nat.le_trans I.ok.bsz (I.ok.cab y a (hfn y) e))
    · rw [h]; exact hbase
  generalize hH5 : pinS S s.heap H = H5
  have ext : ∀ a o, H a = some o → H5 a = some o := fun a o e => by rw [← hH5]; exact pinS_ext Sn a o e
  have in5 : ∀ a o, S a → s.heap.get? a = some o → H5 a = some (pin o) := fun a o h e => by rw [← hH5, pinS_in h, e]; rfl
  have out5 : ∀ a, ¬ S a → H5 a = H a := fun a h => by rw [← hH5, pinS_out h]
  have r5 := r.grow ext
  have P5 : Pers H H5 := .of ext
  have hok5 : HOk X.prog X.w H5 s.heap := fun a o e => by
    by_cases i : S a
    · obtain ⟨o1, e1⟩ := Sg a i
      rw [in5 a o1 i e1] at e
      cases e
      exact anyO_ok e1
    · rw [out5 a i] at e
      exact (I.hok a o e).stay (fun _ _ _ q => q) (fun d q => ext d _ q) fun d ys q => ext d _ q
  have e0 : Env0 X.prog X.w X.K X.mg X.base X.A X.stack s H5 := by
    have e := I.env0
    exact ⟨e.frames, e.mod, fun a o q => ⟨(e.bs a o q).1, by
      rw [out5 a fun i => by rw [Sb a i] at q; cases q]
      exact (e.bs a o q).2⟩, e.bsz, e.funs, fun a ha => by
      rw [out5 a fun i => Sfr a i ha]
      exact e.frf a ha, hok5, e.bare⟩
  have rpF : Rp c H5 (.ref f) (.fn g caps) := .fnL hL (in5 f _ S2 hf) (ext _ _ hcode) (hcp H5 fun y a _ o ho i => in5 a o (S1 a i) ho) (ht.pers P5)
  have n5 := RvN.snoc rpF (nn.pers P5)
  have ao : ArgsOk c H5 (xs ++ [.ref f]) (as0 ++ [.d (.fn g caps)]) := args_ok r5 n5 (by rw [slotsR_snoc]; exact nd) (readA_snoc' ea)
  have sp : spF c call k [] (xs ++ [.ref f]) H5 (fun v H' => (∀ a, S a → ∃ o, H' a = some (pin o)) → Q v (unpS S H')) (fun _ _ _ => False) := by
    refine ⟨_, ao, ?_⟩
    cases ec : call k [] (as0 ++ [.d (.fn g caps)]) with
    | bad => rw [ec] at hq; exact hq.elim
    | ex e as => rw [ec] at hq; exact hq.elim
    | ok q as =>
      rw [ec] at hq
      unfold flatCO at hq
      dsimp only at hq
      split at hq
      · rename_i hflat
        intro x H' af hx hpin
        have mv := mv_unpS hpin
        have af2 : AfterOk c H (unpS S H') (xs ++ [.non]) (as0 ++ [.d .non]) as := by
          refine ⟨by rw [af.len, List.length_append, List.length_append]; rfl, fun a o e nm nt => ?_, fun a ps e => ?_, tabsN_move mv af.tabs, fun j mo a e1 e2 => ?_⟩
          · have i : ¬ S a := fun i => by rw [Sn a i] at e; cases e
            rw [unpS_out i]
            refine af.fr a o (ext a o e) (fun j mo h1 h2 => ?_) nt
            have hj : j < as0.length := by
              have hj := (List.getElem?_eq_some_iff.mp h1).1
              rw [List.length_append] at hj
              by_cases hl : j < as0.length
              · exact hl
              · have : j = as0.length := by simp at hj; omega
                rw [this, List.getElem?_append_right (Nat.le_refl _), Nat.sub_self] at h1
                cases h1
            have hxl : xs.length = as0.length := by rw [nn.len, readA_len ea]
            rw [List.getElem?_append_left hj] at h1
            rw [List.getElem?_append_left (by rw [hxl]; exact hj)] at h2
            exact nm j mo (by rw [List.getElem?_append_left hj]; exact h1) (by rw [List.getElem?_append_left (by rw [hxl]; exact hj)]; exact h2)
          · have i : ¬ S a := fun i => by rw [Sn a i] at e; cases e
            obtain ⟨more, z⟩ := af.frT a ps (ext a _ e)
            exact ⟨more, by rw [unpS_out i]; exact z⟩
          · have hxl : xs.length = as0.length := by rw [nn.len, readA_len ea]
            have hj : j < as0.length := by
              have hj := (List.getElem?_eq_some_iff.mp e1).1
              rw [List.length_append] at hj
              by_cases hl : j < as0.length
              · exact hl
              · have : j = as0.length := by simp at hj; omega
                rw [this, List.getElem?_append_right (Nat.le_refl _), Nat.sub_self] at e1
                cases e1
            rw [List.getElem?_append_left hj] at e1
            rw [List.getElem?_append_left (by rw [hxl]; exact hj)] at e2
            obtain ⟨o', z1, z2⟩ := af.mu j mo a (by rw [List.getElem?_append_left hj]; exact e1) (by rw [List.getElem?_append_left (by rw [hxl]; exact hj)]; exact e2)
            exact ⟨o', z1, z2.move lk mv (List.all_eq_true.mp hflat.2 _ (List.mem_of_getElem? z1))⟩
        obtain ⟨r6, s6⟩ := after_ok r (RvN.snoc (x := .non) (v := .non) .non nn) (by rw [slotsR_snoc]; exact nd) (readA_snoc' ea) af2
        rw [tb_snoc (v' := .fn g caps)] at r6 s6
        refine hq x _ r6 (st.trans s6) ?_
        cases q with
        | d v => exact Rp.move lk mv hx hflat.1
        | n o =>
          obtain ⟨a, e1, mo, na⟩ := hx
          refine ⟨a, e1, mo.move lk mv hflat.1, st.tr a ?_⟩
          cases e2 : H a with
          | none => rfl
          | some o2 => rw [ext a o2 e2] at na; cases na
        | sl i => exact hx.elim
      · exact hq.elim
  obtain ⟨fd, F, hbi, _⟩ := D0.cast xc
  have rv2 : Vals (xs ++ [V.ref f]) (us ++ [Value.ref f]) := rv.append (.cons rfl .nil)
  have hl : (us ++ [Value.ref f]).length = ps.length := by rw [← rv2.length]; exact F.len _ _ _ _ sp
  have bt := hbi s (us ++ [Value.ref f]) I.kIn (by rw [List.append_nil]; exact hl)
  rw [List.append_nil] at bt
  refine wpAny_call (codeAny_mono (F.run X.A X.stack s H5 ⟨us ++ [.ref f], []⟩ (us ++ [.ref f]) (xs ++ [.ref f]) _ _ (xc.room.mono hm) e0 bt rv2 sp) fun rr s2 hr => ?_)
  cases rr with
  | error e =>
    obtain ⟨_, _, _, _, _, _, _, _, _, _, _, _, z⟩ := hr
    exact z.elim
  | ok flw =>
    cases flw with
    | ret u =>
      obtain ⟨v, H6, os, bare, un, hok6, rvv, q⟩ := hr
      have pin6 : ∀ a, S a → ∀ o, s.heap.get? a = some o → H6 a = some (pin o) := fun a i o e => un.frzs a o anyO (in5 a o i e)
      have hp : ∀ a, S a → ∃ o, H6 a = some (pin o) := fun a i => by
        obtain ⟨o, e⟩ := Sg a i
        exact ⟨o, pin6 a i o e⟩
      have mv := mv_unpS hp
      have un2 : Un (frs X.stack) [] H (unpS S H6) s.heap s2.heap := by
        refine ⟨fun a o e nn2 hb hx => ?_, fun a o e nn2 hb hx => ?_, fun a o e nn2 hx => ?_, un.there, fun a ys e => ?_, fun a o u e => ?_, fun a qs e => ?_⟩
        · by_cases i : S a
          · exact (hok6 a _ (pin6 a i o e)).1
          · exact un.keep a o e (by rw [out5 a i]; exact nn2) hb hx
        · exact un.slot a o e (by rw [out5 a fun i => Sfr a i hb]; exact nn2) hb hx
        · by_cases i : S a
          · exact unpS_in i
          · rw [unpS_out i]
            exact un.free a o e (by rw [out5 a i]; exact nn2) hx
        · have i : ¬ S a := fun i => by rw [Sn a i] at e; cases e
          rw [unpS_out i]
          exact un.tups a ys (ext a _ e)
        · have i : ¬ S a := fun i => by rw [Sn a i] at e; cases e
          rw [unpS_out i]
          exact un.frzs a o u (ext a _ e)
        · have i : ¬ S a := fun i => by rw [Sn a i] at e; cases e
          rw [unpS_out i]
          exact un.tbls a qs (ext a _ e)
      have hok2 : HOk X.prog X.w (unpS S H6) s2.heap := fun a o e => by
        have i : ¬ S a := fun i => by rw [unpS_in i] at e; cases e
        rw [unpS_out i] at e
        exact (hok6 a o e).stay (fun _ _ _ q => q) (fun d q => mv d _ q (fun ob z => by cases z)) fun d ys q => mv d _ q (fun ob z => by cases z)
      obtain ⟨hh, gg, dd, tt, os'⟩ := s2
      obtain rfl : os' = s.os := os
      exact ⟨v, unpS S H6, I.call (h' := hh) (g' := gg) (d' := dd) (t' := tt) (ch := []) un2 hok2 bare (fun a z => absurd z (by simp)), rvv, q hp⟩
    | next => exact False.elim hr
    | brk => exact False.elim hr
    | cont => exact False.elim hr
end
end Fl
set_option Elab.async false
set_option linter.all false
set_option maxRecDepth 100000
set_option maxHeartbeats 16000000
/-! Layer F, part 32: what lambdas and function values give the translation. -/
namespace Fl
open PySem PySem.Spec PyProof.Rows L2 NdefX LamX
section
variable {X : Cx} {pins : List (Addr × Obj)} {s s' : Shared} {σ : L2.St} {ρs ρ : Env} {Hs H H' : Hp} {c : SC} {b : Bs} {W : WX} {N : List Str} {sc : Scope} {n m : Nat} {call : Call} {P : PI} {T : Tab}
theorem freeOf_mem {scope : Scope} {y : Str} : y ∈ freeOf scope ↔ (y, NameKind.free) ∈ scope.names := by
  unfold freeOf
  rw [List.mem_filterMap]
  constructor
  · rintro ⟨p, hp, e⟩
    split at e
    · rename_i hk
      cases e
      obtain ⟨a, k⟩ := p
      have hk : k = .free := hk
      subst hk
      exact hp
    · cases e
  · intro h
    exact ⟨_, h, by simp⟩
theorem idxs_at {N : List Str} : ∀ {l : List Str} {is : List Nat} (i : Nat) (y : Str), idxs N l = some is → l[i]? = some y → ∃ j, is[i]? = some j ∧ N[j]? = some y
  | [], _, _, _, _, e => by simp at e
  | x :: xs, is, i, y, h, e => by
    obtain ⟨k, is', h1, h2, rfl⟩ := idxs_cons h
    cases i with
    | zero => simp at e; subst e; exact ⟨k, rfl, idx_ok h1⟩
    | succ i =>
      obtain ⟨j, a, b⟩ := idxs_at i y h2 (by simpa using e)
      exact ⟨j, by simpa using a, b⟩
theorem lamB_ok {sc scope : Scope} {params : Arguments} (h : lamB sc scope params = true) : (∀ env, defaultsOf params env = ([], [])) ∧ ∀ y ∈ freeOf scope, sc.names.lookup y = some .cell ∨ sc.names.lookup y = some .free := by
  unfold lamB at h
  rw [Bool.and_eq_true, Bool.and_eq_true] at h
  obtain ⟨⟨h1, h2⟩, h3⟩ := h
  refine ⟨fun env => ?_, fun y hy => ?_⟩
  · obtain ⟨a1, a2, a3, a4, a5, a6, a7⟩ := params
    have q1 : a7 = [] := List.isEmpty_iff.mp h1
    have q2 : a5 = [] := List.isEmpty_iff.mp h2
    rw [q1, q2]
    rfl
  · have := List.all_eq_true.mp h3 y hy
    split at this
    · left; assumption
    · right; assumption
    · cases this
theorem fd_callL (G : GF c T P call m) (K : Ctx c N sc n m X W) (V0 : FnV c T.kwT call m) {q : Str} (KL : LamC c b X (some q)) {x : Str} {p pos lpos : Pos} {l : List Expr} {params : Arguments} {body : Expr} {scope : Scope} {k g : Nat} {a : E} {cs : List Nat} (hck : ckOf T N sc x = .df k) {f : Expr → Option E} (hf : Snd c b W X P call f) (hm : mapE f l = some a) (hla : LamsIn c a)
    (hs : l.all notStar = true) (hB : lamB sc scope params = true) (hcs : idxs N (freeOf scope) = some cs) (hL : c.lam g = some ⟨q ++ "<lambda>", params, body, scope, freeOf scope⟩) :
    FD c b W X (.Call (.Name x p) (l ++ [.Lambda params body scope lpos]) [] pos) (den P call (.callL k a g cs ⟨q ++ "<lambda>", params, body, scope, freeOf scope⟩)) := by
  have xc := K.xc
  obtain ⟨g1, g2, g3, ps, D⟩ := ck_df G hck
  obtain ⟨hb0, hfn, hq, cc, Pt, nm, hcode, TB, hmem, hun, hnm⟩ := KL q rfl
  obtain ⟨b1, b2⟩ := lamB_ok hB
  have hg' : Gl X x := by show X.env.scope.names.lookup x = _; rw [xc.sc]; exact globB_ok g2
  have pas := mapE_pas (e := .Lambda params body scope lpos) hf rfl hm hla hs
  have hmn : m ≤ n := by have := K.hm; omega
  subst hq
  obtain ⟨e0, es0, he⟩ : ∃ e0 es0, l ++ [.Lambda params body scope lpos] = e0 :: es0 := by
    cases l with
    | nil => exact ⟨_, _, rfl⟩
    | cons y ys => exact ⟨_, _, rfl⟩
  have hall : (e0 :: es0).all notStar = true := by
    rw [← he, List.all_append, hs]
    rfl
  have hall' := hall
  rw [List.all_cons, Bool.and_eq_true] at hall'
  refine fd_plain xc ⟨fun pins s σ H Q I h => ?_⟩ fun _ => rfl
  rw [he]
  refine wpAny_Call_Name_kw (ld_glob I hg' (by rw [xc.mg]; exact g3) ?_ (nmOk_ok g1).1)
  refine PySem.W.callWith_K (h₀ := X.base) I.ok.mod.kin (by rw [xc.K]; exact D.kp) ?_ (star_cons hall'.1) (backTo_plain hall'.2)
  rw [← he]
  refine pas.run pos pins s σ H _ _ I (arg_imp (g := fun rs ρ1 => match capsOf ρ1 cs with
    | some vs => calling P (fun f caps as => flatCO (call f caps as)) k [] (rs ++ [.d (.fn g vs)]) ρ1
    | none => .bad) h) fun us s1 vs H1 I1 rv ⟨ρs, ρ, rs, r0, r1, st, v, _, hq⟩ => ?_
  -- the lambda itself
  split at hq
  · rename_i caps ec
    unfold calling at hq
    cases er : restA (P.byRef k) 0 (rs ++ [.d (.fn g caps)]) ρ with
    | bad => rw [er] at hq; exact hq.elim
    | ex e ρ1 => exact absurd er restA_noex
    | ok qsf ρ2 =>
      rw [er] at hq
      obtain ⟨qs, er1, rfl⟩ := restA_snoc er
      have hq : Post c b W σ (Rv c σ) ρs H (if (slotsR (qs ++ [.d (.fn g caps)])).Nodup then (match readA ρ2 (qs ++ [.d (.fn g caps)]) with
        | some vs => back (qs ++ [.d (.fn g caps)]) ρ2 (flatCO (call k [] vs))
        | none => .bad) else .bad) Q := hq
      split at hq
      · rename_i nd
        split at hq
        · rename_i args ea
          obtain ⟨as0, ea0, rfl⟩ := readA_snoc ea
          rw [slotsR_snoc] at nd
          obtain ⟨H2, I2, r2, st2, n2, P2⟩ := ghostA r0 I1 r1 st v er1
          obtain ⟨ws, wl, wt, ww⟩ := caps_ok r1 ec
          have hfree : ∀ y ∈ scope.names, y.2 = .free → ∃ c, X.env.cells.lookup y.1 = some c := fun y hy e => by
            have hmm : y.1 ∈ freeOf scope := freeOf_mem.mpr (by rw [← e]; exact hy)
            rcases b2 y.1 hmm with z | z
            · exact I2.ok.has _ (.inl (by show X.env.scope.names.lookup y.1 = _; rw [xc.sc]; exact z))
            · exact I2.ok.has _ (.inr (by show X.env.scope.names.lookup y.1 = _; rw [xc.sc]; exact z))
          refine lam_makeN (T := c.T) (nm := nm) I2 TB hcode hmem (hnm _ _) hun r2.tabs (b1 _) hfree fun fa c' pm ctv H3 s3 I3 eN nn T3 hfo hfn3 hfr3 hc3 hsz => ?_
          have r3 : ER c b σ ρ2 H3 := r2.extN eN T3 fun a ps e => by
            rw [hb0] at e
            exact I3.base.tbls a ps e
          have st3 := st2.extN eN nn
          have P3 : Pers H2 H3 := fun a o h hp => eN a o h (per_tbl hp)
          refine ⟨I3.kIn, ?_⟩
          have hfb : X.base.get? fa = none := Heap.get?_none_of_le (Nat.le_trans (Nat.le_trans I2.ok.bsz I2.sz) hsz)
          refine lam_call xc V0.lk hmn hfn D hL (cl := cloFrom X.env.cells scope.names []) (ws := ws) I3 r0 r3 st3 (n2.pers P3) rv hfo hfn3 hfr3 hfb hc3 (fun a ⟨y, e⟩ => ⟨y, clo_cm hfree e⟩) (fun H' hp => ?_) ((wt.pers P2).pers P3) nd ea0 hq
          refine cellP_made I3 (cs := cs) (fun i y e => ?_) (by rw [wl, idxs_len hcs]) (fun y hy => freeOf_mem.mp hy) (fun y hy => freeOf_mem.mpr hy) (fun y hy => by rw [xc.sc]; exact b2 y hy) ww hp
          obtain ⟨j, e1, e2⟩ := idxs_at i y hcs e
          exact ⟨j, e1, by rw [xc.nm]; exact e2⟩
        · exact hq.elim
      · exact hq.elim
  · exact hq.elim
theorem lamF (G : GF c T P call m) (V0 : FnV c T.kwT call m) {lam : Option Str} (K : Ctx c N sc n m X W) (KL : LamC c b X lam) : LamF c b W X N sc T P call lam := by
  refine ⟨fun hlam hck hf hla hs hB hcs hL => ?_, fun hck ha hs => ?_⟩
  · subst hlam
    obtain ⟨f, hf, hm⟩ := hf
    exact fd_callL G K V0 KL hck hf hm hla hs hB hcs hL
  · obtain ⟨h1, h2, h3⟩ := ckOf_vis hck
    exact fd_app K.xc V0 (by have := K.hm; omega) K.hx (idx_ok h3) (visB_ok h2) (nmOk_ok h1).1 (nmOk_ok h1).2.1 hs ha
end
end Fl
set_option Elab.async false
set_option linter.all false
set_option maxRecDepth 100000
set_option maxHeartbeats 16000000
/-! Layer F, part 33: a def's entry and its end. -/
namespace Fl
open PySem PySem.Spec PyProof.Rows L2 NdefX LamX
section
variable {c : SC} {H H' : Hp} {σ : L2.St} {ρ : Env}
/-- the objects handed in, by slots -/
def psOf (vs : List V) (args : List SV) : List (Nat × Addr) := (List.range args.length).filterMap fun (j : Nat) => match args[j]?, vs[j]? with
  | some (SV.m false _), some (V.ref a) => some (j, a)
  | _, _ => none
theorem psOf_mem {vs : List V} {args : List SV} {i : Nat} {a : Addr} : (i, a) ∈ psOf vs args ↔ ∃ o, args[i]? = some (.m false o) ∧ vs[i]? = some (.ref a) := by
  unfold psOf
  rw [List.mem_filterMap]
  constructor
  · rintro ⟨j, hj, e⟩
    split at e
    · rename_i o a' h1 h2
      cases e
      exact ⟨o, h1, h2⟩
    · cases e
  · rintro ⟨o, h1, h2⟩
    refine ⟨i, List.mem_range.mpr (List.getElem?_eq_some_iff.mp h1).1, ?_⟩
    rw [h1, h2]
abbrev bsOf (H : Hp) (vs : List V) (args : List SV) : Bs := ⟨H, psOf vs args⟩
/-- slots at the entry: arguments, captured values, the rest empty -/
theorem entry_ok {vs ws : List V} {args : List SV} {caps : List D} {σ : L2.St} {ρ : Env} (ao : ArgsOk c H vs args) (t : RpL c H ws caps) {k : Nat} (hσ : σ = vs.map some ++ (ws.map some ++ List.replicate k none)) (hρ : ρ = args.map some ++ (caps.map (fun d => some (SV.d d)) ++ List.replicate k none)) :
    ER c (bsOf H vs args) σ ρ H := by
  have hl := ao.len
  have wl := t.length
  have cases_ : ∀ (i : Nat) (sv : SV), ρ[i]? = some (some sv) → (i < args.length ∧ args[i]? = some sv) ∨ (args.length ≤ i ∧ ∃ d, sv = .d d ∧ caps[i - args.length]? = some d) := fun i sv h => by
    rw [hρ] at h
    by_cases hi : i < args.length
    · rw [List.getElem?_append_left (by rw [List.length_map]; exact hi), List.getElem?_map] at h
      left
      refine ⟨hi, ?_⟩
      cases e : args[i]? with
      | none => rw [e] at h; cases h
      | some x => rw [e] at h; cases h; rfl
    · rw [List.getElem?_append_right (by rw [List.length_map]; omega), List.length_map] at h
      right
      refine ⟨by omega, ?_⟩
      by_cases h2 : i - args.length < caps.length
      · rw [List.getElem?_append_left (by rw [List.length_map]; exact h2), List.getElem?_map] at h
        cases e : caps[i - args.length]? with
        | none => rw [e] at h; cases h
        | some x => rw [e] at h; cases h; exact ⟨x, rfl, rfl⟩
      · rw [List.getElem?_append_right (by rw [List.length_map]; omega), List.getElem?_replicate] at h
        split at h <;> cases h
  have sl : ∀ (i : Nat) (x : V), i < args.length → vs[i]? = some x → σ[i]? = some (some x) := fun i x hi e => by
    rw [hσ, List.getElem?_append_left (by rw [List.length_map]; omega), List.getElem?_map, e]
    rfl
  have slr : ∀ (i : Nat) (x : V), i < args.length → σ[i]? = some (some x) → vs[i]? = some x := fun i x hi e => by
    rw [hσ, List.getElem?_append_left (by rw [List.length_map]; omega), List.getElem?_map] at e
    cases q : vs[i]? with
    | none => rw [q] at e; cases e
    | some y => rw [q] at e; cases e; rfl
  have atM : ∀ (i : Nat) w o, ρ[i]? = some (some (SV.m w o)) → i < args.length ∧ args[i]? = some (.m w o) ∧ w = false := fun i w o h => by
    rcases cases_ i _ h with ⟨hi, e⟩ | ⟨_, d, z, _⟩
    · exact ⟨hi, e, ao.own i w o e⟩
    · cases z
  refine ⟨by rw [hσ, hρ]; simp [hl, wl], fun i sv h => ?_, fun i j w w' o o' a h1 h2 e1 e2 => ?_, fun i o a h e => ?_, fun i o a h e => ?_, fun i a hp => ?_, fun a o h _ _ => h, fun a ps h => ⟨#[], by have h : H a = _ := h; rw [h]; simp⟩, ao.tabs⟩
  · rcases cases_ i sv h with ⟨hi, e⟩ | ⟨hi, d, rfl, e⟩
    · obtain ⟨x, e1, q⟩ := ao.at_ i sv e
      exact ⟨x, sl i x hi e1, q⟩
    · obtain ⟨x, e1, q⟩ := t.get e
      refine ⟨x, ?_, q⟩
      have h2 : i - args.length < ws.length := (List.getElem?_eq_some_iff.mp e1).1
      rw [hσ, List.getElem?_append_right (by rw [List.length_map]; omega), List.length_map, hl, List.getElem?_append_left (by rw [List.length_map]; exact h2), List.getElem?_map, e1]
      rfl
  · obtain ⟨i1, a1, _⟩ := atM i w o h1
    obtain ⟨i2, a2, _⟩ := atM j w' o' h2
    exact ao.apart i j w w' o o' a a1 a2 (slr i _ i1 e1) (slr j _ i2 e2)
  · cases (atM i true o h).2.2
  · obtain ⟨i1, a1, _⟩ := atM i false o h
    exact psOf_mem.mpr ⟨o, a1, slr i _ i1 e⟩
  · obtain ⟨o, h1, h2⟩ := psOf_mem.mp hp
    have hi : i < args.length := (List.getElem?_eq_some_iff.mp h1).1
    refine ⟨⟨o, ?_⟩, sl i _ hi h2⟩
    rw [hρ, List.getElem?_append_left (by rw [List.length_map]; exact hi), List.getElem?_map, h1]
    rfl
theorem outs_len : ∀ (n : Nat) (ρ : Env), (outs n ρ).length = n
  | 0, _ => rfl
  | n + 1, [] => congrArg (· + 1) (outs_len n [])
  | n + 1, _ :: r => congrArg (· + 1) (outs_len n r)
theorem outs_get : ∀ (n : Nat) (ρ : Env) {j : Nat} {x : Option SV}, j < n → ρ[j]? = some x → (outs n ρ)[j]? = some (outS x)
  | 0, _, _, _, h, _ => absurd h (by omega)
  | n + 1, [], _, _, _, e => by simp at e
  | n + 1, a :: r, 0, x, _, e => by simp at e; subst e; rfl
  | n + 1, a :: r, j + 1, x, h, e => by
    have := outs_get n r (j := j) (x := x) (by omega) (by simpa using e)
    simpa [outs] using this
/-- at the end -/
theorem leave_ok {vs : List V} {args : List SV} {np : Nat} (r : ER c (bsOf H vs args) σ ρ H') (hn : args.length = np) : AfterOk c H H' vs args (outs np ρ) := by
  refine ⟨by rw [outs_len, hn], fun a o h nm nt => r.fr a o h (fun i hi => ?_) nt, r.frT, r.tabs, fun j mo a h1 h2 => ?_⟩
  · obtain ⟨o', h1, h2⟩ := psOf_mem.mp hi
    exact nm i o' h1 h2
  · obtain ⟨⟨o, e1⟩, e2⟩ := r.parB j a (psOf_mem.mpr ⟨mo, h1, h2⟩)
    have hj : j < np := by rw [← hn]; exact (List.getElem?_eq_some_iff.mp h1).1
    obtain ⟨x, e3, a', ea, m⟩ := r.slot j _ e1
    rw [e2] at e3
    cases e3
    cases ea
    exact ⟨o, outs_get np ρ hj e1, m⟩
/-- the end of a body, as its caller wants it -/
theorem leave_post {vs : List V} {args : List SV} {np : Nat} {Q : VK} {E : XK} {o : O} (hn : args.length = np) (h : CPost c H vs args Q E (leave np o)) :
    OPost c (bsOf H vs args) (fun cls d _ H => E cls d H) H { nx := fun _ H' => Q .non H', rt := Q } o := by
  cases o with
  | nx ρ => exact fun σ H' r p => h .non H' (leave_ok r hn) .non
  | rt q ρ =>
    intro σ x H' r p hx
    refine h x H' (leave_ok r hn) ?_
    cases q with
    | d v => exact hx
    | n o => exact hx
    | sl i => exact hx
  | bk ρ => exact h.elim
  | ct ρ => exact h.elim
  | ex e ρ => exact fun σ cls d H' r p hx => h cls d H' (leave_ok r hn) hx
  | bad => exact h.elim
end
end Fl
set_option Elab.async false
set_option linter.all false
set_option maxRecDepth 100000
set_option maxHeartbeats 16000000
/-! Layer F, part 34: every def of the text does what runC says. -/
namespace Fl
open PySem PySem.Spec PyProof.Rows L2 NdefX LamX
section
variable {c : SC} {P : PI} {T : Tab} {codes : Nat → Option Code} {fu m : Nat}
/-- where a def's lambdas lie -/
def LamQ (c : SC) (cdv : Value) (q : Str) (lam : Option Str) : Prop := ∀ q', lam = some q' → q = q' ∧ ∃ cc Pt nm, cdv = .ref cc ∧ TabB c.base c.mg cc Pt ∧ (Pt, nm) ∈ c.T ∧ (∀ p ∈ c.T, p.1 = Pt → p.2 = nm) ∧ ∀ l k, nm l k = q' ++ "<lambda>"
theorem start_eq {N : List Str} {vs : List V} {np : Nat} (h : vs.length = np) : L2.start N vs = vs.map some ++ (([] : List V).map some ++ List.replicate (N.length - np - 0) none) := by
  subst h
  rfl
theorem fn_spF {f : Addr} {name qual : Str} {params : Arguments} {body : List Stmt} {scope : Scope} {dV kV doc pm cdv ct oc : Value} {an od : Option Addr} {osl : Array (Option Value)} {N ps : List Str} {g ft : Nat} {S' : S} {lam : Option Str}
    (lk : c.K.lookup f = some ⟨oc, od, .func (PySem.W.fnOf name qual params body scope dV kV doc pm an cdv ct), osl⟩) (hcd : PySem.W.codeIn c.K cdv qual = true) (S : FnScope N ps scope)
    (hc : codes g = some ⟨ps.length, 0, N.length, S'⟩) (ht : mapS (trS T N lam ft scope) body = some S') (hl : LamsInS c S') (hq : LamQ c cdv (envOfC qual scope 0 f cdv).qual lam)
    (G : GF c T P (runC P codes fu) m) (V0 : FnV c T.kwT (runC P codes fu) m) :
    FnOk c.P c.w c.K c.mg c.base (L2.CX c.P c.w) (m + 1 + 1) f (PySem.W.fnOf name qual params body scope dV kV doc pm an cdv ct) ps (spF c (runC P codes (fu + 1)) g []) := by
  have bad : ∀ {vs : List V} {H : Hp} {Q : VK} {E : XK} {args : List SV}, CPost c H vs args Q E (runC P codes (fu + 1) g [] args) → args.length = ps.length ∧ CPost c H vs args Q E (leave ps.length (denS P (runC P codes fu) S' (entry ⟨ps.length, 0, N.length, S'⟩ [] args))) := fun {vs H Q E args} h => by
    have e : runC P codes (fu + 1) g [] args = if args.length = ps.length ∧ ([] : List D).length = 0 then leave ps.length (denS P (runC P codes fu) S' (entry ⟨ps.length, 0, N.length, S'⟩ [] args)) else .bad := by
      show (match codes g with
        | none => CO.bad
        | some c => if args.length = c.np ∧ ([] : List D).length = c.nc then leave c.np (denS P (runC P codes fu) c.body (entry c [] args)) else .bad) = _
      rw [hc]
    rw [e] at h
    split at h
    · rename_i q
      exact ⟨q.1, h⟩
    · exact h.elim
  refine fn_of lk hcd S (fun vs H Q E h => ?_) fun A outer s H vs Q E hr h => ?_
  · obtain ⟨args, ao, cp⟩ := h
    rw [ao.len, (bad cp).1]
  · obtain ⟨args, ao, cp⟩ := h
    obtain ⟨hn, cp⟩ := bad cp
    have xc : XC c N scope (m + 1) (cxOf (L2.CX c.P c.w) c.P c.w c.K c.mg c.base N qual scope f cdv A outer s H E) := ⟨rfl, rfl, rfl, rfl, rfl, rfl, S.nd, rfl, rfl, hr, passes_of rfl⟩
    have hx : PassW (cxOf (L2.CX c.P c.w) c.P c.w c.K c.mg c.base N qual scope f cdv A outer s H E) (fun cls d _ H => E cls d H) := fun σ => passAt (takes_of rfl rfl rfl rfl) σ
    have K : Ctx c N scope (m + 1) m (cxOf (L2.CX c.P c.w) c.P c.w c.K c.mg c.base N qual scope f cdv A outer s H E) (fun cls d _ H => E cls d H) := ⟨xc, Nat.le_refl _, hx⟩
    have KL : LamC c (bsOf H vs args) (cxOf (L2.CX c.P c.w) c.P c.w c.K c.mg c.base N qual scope f cdv A outer s H E) lam := fun q' e => by
      obtain ⟨h1, cc, Pt, nm, h2, h3⟩ := hq q' e
      exact ⟨rfl, fun _ => rfl, h1, cc, Pt, nm, h2, h3⟩
    refine ⟨_, mapS_ok (b := bsOf H vs args) (W := fun cls d _ H => E cls d H) (P := P) (call := runC P codes fu) (fun st x h hl => trS_ok G (fun K KL => lamF G V0 K KL) K (fun _ => rfl) KL ft h hl) ht hl, ?_⟩
    refine ⟨entry ⟨ps.length, 0, N.length, S'⟩ [] args, entry_ok (caps := []) (ws := []) ao .nil (start_eq (by rw [ao.len, hn])) rfl, leave_post hn cp⟩
end
end Fl
set_option Elab.async false
set_option linter.all false
set_option maxRecDepth 100000
set_option maxHeartbeats 16000000
/-! Layer F, part 35: every lambda of the text does what runC says. -/
namespace Fl
open PySem PySem.Spec PyProof.Rows L2 NdefX LamX
section
variable {c : SC} {P : PI} {T : Tab} {codes : Nat → Option Code} {fu m : Nat}
theorem rpL_map {H : Hp} {ws : List V} {caps : List D} (h : RpL c H ws caps) : ws.length = caps.length := h.length
theorem lam_spF {L : LI} {N ps : List Str} {g ft : Nat} {x : E} (S : NScope N ps L.fr L.scope) (hb : ∀ (cl : List (Str × Addr)) (c' : Addr) (pm ctv : Value) (us : List Value), us.length = ps.length → bindArgs (PySem.W.kla_fn "<lambda>" L.qual L.params L.body L.scope cl pm (.ref c') ctv) ⟨us, []⟩ = pure (ps.zip us))
    (hc : codes g = some ⟨ps.length, L.fr.length, N.length, .ret x⟩) (ht : trE T N ft L.scope none L.body = some x) (hl : LamsIn c x)
    (G : GF c T P (runC P codes fu) m) (V0 : FnV c T.kwT (runC P codes fu) m) : LamRun c (runC P codes (fu + 1)) (m + 1 + 1) g L := by
  intro A outer s H f c' cl pm ctv us vs ws caps Q E hr e0 of1 hcO C r rc ⟨args, ao, cp⟩
  have e : runC P codes (fu + 1) g caps args = if args.length = ps.length ∧ caps.length = L.fr.length then leave ps.length (denS P (runC P codes fu) (.ret x) (entry ⟨ps.length, L.fr.length, N.length, .ret x⟩ caps args)) else .bad := by
    show (match codes g with
      | none => CO.bad
      | some c => if args.length = c.np ∧ caps.length = c.nc then leave c.np (denS P (runC P codes fu) c.body (entry c caps args)) else .bad) = _
    rw [hc]
  rw [e] at cp
  split at cp
  case isFalse => exact cp.elim
  rename_i hn
  obtain ⟨hn, hn2⟩ := hn
  have lim : s.heap.NoLimit := e0.mod.nolimit.keeps fun b o e => (e0.bs b o e).1
  have hlv : vs.length = ps.length := by rw [ao.len, hn]
  let F : NF := ⟨"<lambda>", L.qual, L.params, [], L.scope, cl, c'⟩
  have xc : XC c N L.scope (m + 1) (ncx (L2.CX c.P c.w) c.P c.w c.K c.mg c.base N F f A outer s H E) := ⟨rfl, rfl, rfl, rfl, rfl, rfl, S.nd, rfl, rfl, hr.deeper _, passes_of rfl⟩
  have hx : PassW (ncx (L2.CX c.P c.w) c.P c.w c.K c.mg c.base N F f A outer s H E) (fun cls d _ H => E cls d H) := fun σ => passAt (takes_of rfl rfl rfl rfl) σ
  have K : Ctx c N L.scope (m + 1) m (ncx (L2.CX c.P c.w) c.P c.w c.K c.mg c.base N F f A outer s H E) (fun cls d _ H => E cls d H) := ⟨xc, Nat.le_refl _, hx⟩
  have fd := trE_ok (b := bsOf H vs args) G (fun K KL => lamF G V0 K KL) ft K LamC.none ht hl
  refine PySem.W.kla_callFunE hr.depth of1 rfl S.co S.gen rfl (codeO_at e0.hok hcO) ?_
  rw [hb cl c' pm ctv us (by rw [← r.length]; exact hlv)]
  refine wpAny_pure (wpAny_newFunctionEnv S.nocell (fun ⟨n, _⟩ hy => S.par n (List.of_mem_zip hy).1) (fun h₁ hns hsb => ⟨lim.fresh _ hsb, ?_⟩) S.kind)
  show codeAny _ _ (.expr L.body (envF F f s.heap.objs.size)) _ _
  have kp : ∀ b o, s.heap.get? b = some o → h₁.get? b = some o := fun b o e => hsb.extBut b o (Nat.ne_of_lt (Heap.lt_size e)) (Heap.get?_push_of_some _ e)
  have I : Inv (ncx (L2.CX c.P c.w) c.P c.w c.K c.mg c.base N F f A outer s H E) [] (startF N vs (ws.map some)) H { s with heap := h₁, toks := s.toks + (ps.zip us).length } := inv_startN (F := F) S hr.hd e0 hlv r C hns kp
  have er : ER c (bsOf H vs args) (startF N vs (ws.map some)) (entry ⟨ps.length, L.fr.length, N.length, .ret x⟩ caps args) H := by
    refine entry_ok ao rc (k := N.length - ps.length - L.fr.length) ?_ rfl
    unfold startF
    rw [List.length_map, rc.length, hlv, hn2]
  have op := leave_post (vs := vs) hn cp
  refine PySem.W.kla_codeExpr (wpAny_mono (fd.v.run [] _ (startF N vs (ws.map some)) H Q I ⟨_, er, ?_⟩) (fun v s' hq => ?_) fun e s' hq => hq)
  · exact o_bind (rep := Rv c _) er op fun q ρ1 x H1 r1 s1 v1 p1 => ret_ok er r1 s1 v1 p1
  · obtain ⟨w', H', J', rv, q⟩ := hq
    exact ⟨w', H', J'.os, J'.bare, J'.base, J'.hok, rv, q⟩
end
end Fl
set_option Elab.async false
set_option linter.all false
set_option maxRecDepth 100000
set_option maxHeartbeats 16000000
/-! Layer F, part 36: the whole text at each fuel. -/
namespace Fl
open PySem PySem.Spec PyProof.Rows L2 NdefX LamX
/-- what the text says of the def number g -/
structure DefF (c : SC) (T : Tab) (codes : Nat → Option Code) (g : Nat) (ps : List Str) : Prop where
  ex : ∃ (name qual : Str) (params : Arguments) (body : List Stmt) (scope : Scope) (dV kV doc pm cdv ct oc : Value) (an od : Option Addr) (osl : Array (Option Value)) (N : List Str) (ft : Nat) (S' : S) (lam : Option Str),
    c.K.lookup (c.fnA g) = some ⟨oc, od, .func (PySem.W.fnOf name qual params body scope dV kV doc pm an cdv ct), osl⟩ ∧ PySem.W.codeIn c.K cdv qual = true ∧ FnScope N ps scope ∧ codes g = some ⟨ps.length, 0, N.length, S'⟩ ∧ mapS (trS T N lam ft scope) body = some S' ∧ LamsInS c S' ∧
      LamQ c cdv (qual ++ ".<locals>.") lam ∧ Binds c.K (PySem.W.fnOf name qual params body scope dV kV doc pm an cdv ct) ps [] ∧
      ∀ n ks p, (g, n, ks, p) ∈ T.kwT → ∀ (s : Shared) (us ws : List Value), us.length = n → ws.length = ks.length → ∃ xs, pick (us ++ ws) p = some xs ∧ BindsTo s (PySem.W.fnOf name qual params body scope dV kV doc pm an cdv ct) ⟨us, ks.zip ws⟩ (ps.zip xs)
  kp : PySem.W.keepIn c.K (.ref (c.fnA g)) = true
  isF : PySem.W.isFn c.K (.ref (c.fnA g)) = true
/-- .. of the lambda number g -/
structure LamD (c : SC) (T : Tab) (codes : Nat → Option Code) (g : Nat) (L : LI) : Prop where
  ex : ∃ (N ps : List Str) (ft : Nat) (x : E), NScope N ps L.fr L.scope ∧ (∀ (cl : List (Str × Addr)) (c' : Addr) (pm ctv : Value) (us : List Value), us.length = ps.length → bindArgs (PySem.W.kla_fn "<lambda>" L.qual L.params L.body L.scope cl pm (.ref c') ctv) ⟨us, []⟩ = pure (ps.zip us)) ∧
    codes g = some ⟨ps.length, L.fr.length, N.length, .ret x⟩ ∧ trE T N ft L.scope none L.body = some x ∧ LamsIn c x
/-- all that the text says -/
structure StF (c : SC) (T : Tab) (P : PI) (codes : Nat → Option Code) : Prop where
  cf : CF c
  fldN : ∀ f k, idx T.flds f = some k → c.fldN k = f
  consts : ∀ x d, T.consts.lookup x = some d → ∃ v u, c.mg x = some u ∧ L2.RelV v u ∧ ∀ H, Rp c H v d
  blts : ∀ x, T.blts.contains x = true → c.mg x = none
  def_ : ∀ g, c.isDef g = true → ∃ ps, DefF c T codes g ps
  defs : ∀ x k, T.defs.lookup x = some k → c.mg x = some (.ref (c.fnA k)) ∧ c.isDef k = true
  clss : ∀ x C f, T.clss.lookup x = some (C, f) → c.isCls C = true ∧ Mk c.K (c.clsA C) (c.fnA f) ∧ (∃ ps, DefF c T codes f ps) ∧ c.mg x = some (.ref (c.clsA C))
  prop : ∀ C f g, c.isCls C = true → (P.ci C).props.lookup f = some g → ∃ p ps, PropOf c.K (c.clsA C) (c.fldN f) p (c.fnA g) ∧ DefF c T codes g ps ∧ ps.length = 1
  fld : ∀ C f, c.isCls C = true → (P.ci C).flds.contains f = true → NoAttr c.K (c.clsA C) (c.fldN f)
  inj : ∀ f g, c.fldN f = c.fldN g → f = g
  eq : ∀ C f, c.isCls C = true → (P.ci C).eq = some f → PySem.W.findIn c.K (.ref (c.clsA C)) "__eq__" = some (some (.ref (c.fnA f))) ∧ ∃ ps, DefF c T codes f ps ∧ ps.length = 2
  lams : ∀ g L, c.lam g = some L → LamD c T codes g L
  lk : LamK c
section
variable {c : SC} {T : Tab} {P : PI} {codes : Nat → Option Code} {call : Call} {m : Nat}
theorem gf_of (S : StF c T P codes) (hd : ∀ g ps, DefF c T codes g ps → DefOk c T.kwT call m g ps) (hl : ∀ g L, LamD c T codes g L → LamRun c call m g L) : GF c T P call m ∧ FnV c T.kwT call m := by
  refine ⟨⟨S.cf, ⟨fun C f g h1 h2 => ?_, S.fld, S.inj, fun C f h1 h2 => ?_⟩, S.fldN, S.consts, fun x k h => ?_, fun x C f h => ?_, S.blts⟩, ⟨fun k h => ?_, fun g L h => hl g L (S.lams g L h), S.lk⟩⟩
  · obtain ⟨p, ps, a, d, e⟩ := S.prop C f g h1 h2
    exact ⟨p, ps, a, hd g ps d, e⟩
  · obtain ⟨a, ps, d, e⟩ := S.eq C f h1 h2
    exact ⟨a, ps, hd f ps d, e⟩
  · obtain ⟨a, b⟩ := S.defs x k h
    obtain ⟨ps, d⟩ := S.def_ k b
    exact ⟨a, b, ps, hd k ps d⟩
  · obtain ⟨a, b, ⟨ps, d⟩, e⟩ := S.clss x C f h
    exact ⟨a, b, ⟨ps, hd f ps d⟩, e⟩
  · obtain ⟨ps, d⟩ := S.def_ k h
    exact ⟨ps, hd k ps d⟩
theorem all_ok (S : StF c T P codes) : ∀ fu, GF c T P (runC P codes fu) (2 * fu) ∧ FnV c T.kwT (runC P codes fu) (2 * fu)
  | 0 => by
    refine gf_of S (fun g ps d => ?_) fun g L d => ?_
    · obtain ⟨name, qual, params, body, scope, dV, kV, doc, pm, cdv, ct, oc, an, od, osl, N, ft, S', lam, h1, h2, h3, h4, h5, h6, h7, h8, h9⟩ := d.ex
      exact ⟨⟨_, ⟨fun _ _ _ _ ⟨_, _, h⟩ => h.elim, fun _ _ _ _ _ _ _ _ _ _ _ _ _ ⟨_, _, h⟩ => h.elim⟩, h8, h9⟩, d.kp, d.isF⟩
    · intro A outer s H f c' cl pm ctv us vs ws caps Q E hr e0 of1 hcO C r rc ⟨args, ao, cp⟩
      exact cp.elim
  | fu + 1 => by
    obtain ⟨G, V0⟩ := all_ok S fu
    refine gf_of S (fun g ps d => ?_) fun g L d => ?_
    · obtain ⟨name, qual, params, body, scope, dV, kV, doc, pm, cdv, ct, oc, an, od, osl, N, ft, S', lam, h1, h2, h3, h4, h5, h6, h7, h8, h9⟩ := d.ex
      exact ⟨⟨_, fn_spF h1 h2 h3 h4 h5 h6 h7 G V0, h8, h9⟩, d.kp, d.isF⟩
    · obtain ⟨N, ps, ft, x, h1, h2, h3, h4, h5⟩ := d.ex
      exact lam_spF h1 h2 h3 h4 h5 G V0
end
end Fl
set_option Elab.async false
set_option linter.all false
set_option maxRecDepth 100000
set_option maxHeartbeats 16000000
/-! Layer F, part 37: the head's facts, read off a part of the heap. -/
namespace Fl
open PySem PySem.Spec PyProof.Rows L2 NdefX LamX
/-- where a function stands: a global's, a class's method, a property's getter -/
inductive Pl where
  | g (x : Str)
  | m (C f : Str)
  | p (C f : Str)
  deriving DecidableEq
def getO (K : PySem.W.Frag) (p : Addr) : Addr := match PySem.W.recIn K p "property" with
  | some (.ref g :: _) => g
  | _ => 0
def Pl.at_ (K : PySem.W.Frag) : Pl → Addr
  | .g x => He.ga K x
  | .m C f => He.ma K (He.ga K C) f
  | .p C f => getO K (He.ma K (He.ga K C) f)
structure DefP where
  pl : Pl
  name : Str
  qual : Str
  params : Arguments
  body : List Stmt
  scope : Scope
abbrev FnP : Type := Option (Str × Str × Arguments × FuncBody × Scope × Addr × List (Str × Addr) × Value × Value × Addr)
def fnP (K : PySem.W.Frag) (p : Pl) : FnP := match K.lookup (p.at_ K) with
  | some ⟨_, _, .func fd, _⟩ => some (fd.name, fd.qualname, fd.params, fd.body, fd.scope, fd.globals, fd.closure, fd.defaults, fd.kwdefaults, fd.builtins)
  | _ => none
def DefP.val (d : DefP) : FnP := some (d.name, d.qual, d.params, .stmts d.body, d.scope, mainGlobals, [], .none, .none, builtinsNs)
def DefP.ok (K : PySem.W.Frag) (d : DefP) : Bool := PySem.W.keepIn K (.ref (d.pl.at_ K)) && (PySem.W.isFn K (.ref (d.pl.at_ K)) && (match K.lookup (d.pl.at_ K) with
  | some ⟨_, _, .func fd, _⟩ => PySem.W.codeIn K fd.code d.qual
  | _ => false))
theorem DefP.look {K : PySem.W.Frag} {d : DefP} (e : fnP K d.pl = d.val) (c : d.ok K = true) : PySem.W.keepIn K (.ref (d.pl.at_ K)) = true ∧ PySem.W.isFn K (.ref (d.pl.at_ K)) = true ∧
    ∃ oc od osl doc pm an cdv ct, K.lookup (d.pl.at_ K) = some ⟨oc, od, .func (PySem.W.fnOf d.name d.qual d.params d.body d.scope .none .none doc pm an cdv ct), osl⟩ ∧ PySem.W.codeIn K cdv d.qual = true := by
  obtain ⟨kp, c2⟩ := He.ba c
  obtain ⟨isf, c2⟩ := He.ba c2
  refine ⟨kp, isf, ?_⟩
  unfold fnP at e
  cases q : K.lookup (d.pl.at_ K) with
  | none =>
    rw [q] at c2
    cases c2
  | some o =>
    obtain ⟨oc, od, dt, osl⟩ := o
    rw [q] at c2 e
    cases dt with
    | func fd =>
      obtain ⟨n1, n2, n3, n4, n5, n6, n7, n8, n9, n10, n11, n12, n13, n14, n15⟩ := fd
      have e2 : (some (n1, n2, n3, n4, n5, n6, n7, n8, n9, n15) : FnP) = some (d.name, d.qual, d.params, .stmts d.body, d.scope, mainGlobals, [], .none, .none, builtinsNs) := e
      simp only [Option.some.injEq, Prod.mk.injEq] at e2
      obtain ⟨h1, h2, h3, h4, h5, h6, h7, h8, h9, h10⟩ := e2
      subst h1 h2 h3 h4 h5 h6 h7 h8 h9 h10
      exact ⟨oc, od, osl, n10, n11, n12, n13, n14, rfl, c2⟩
    | _ => cases c2
end Fl
set_option Elab.async false
set_option linter.all false
set_option maxRecDepth 100000
set_option maxHeartbeats 16000000
/-! Layer F, part 38: the head's facts about classes. -/
namespace Fl
open PySem PySem.Spec PyProof.Rows L2 NdefX LamX
/-- facts of the head beyond He.Fa -/
inductive Fc where
  | he (f : He.Fa)
  | prop (C f : Str)
  | eqm (C : Str)
  | obj
  | cf (C : Str)
  | kit (C D : Str) (b : Bool)
  | tup (x : Str) (vs : List He.Dv)
  | dvs (x : Str) (kvs : List (Str × He.Dv))
def Fc.ok (K : PySem.W.Frag) : Fc → Bool
  | .he f => f.ok K
  | .prop C f => He.eqO (PySem.W.findIn K (.ref (He.ga K C)) f) (some (some (.ref (He.ma K (He.ga K C) f)))) && (He.eqO (PySem.W.specialIn K (.ref (He.ma K (He.ga K C) f)) "__get__") (some (some (.builtin "property.__get__"))) && (decide (PySem.W.takesIn K (.ref (He.ma K (He.ga K C) f)) = some true) &&
      (match PySem.W.recIn K (He.ma K (He.ga K C) f) "property" with
      | some (.ref _ :: _) => true
      | _ => false)))
  | .eqm C => He.eqO (PySem.W.findIn K (.ref (He.ga K C)) "__eq__") (some (some (.ref (He.ma K (He.ga K C) "__eq__"))))
  | .obj => He.eqO (PySem.W.specialIn K (.builtin "object.__class__") "__get__") (some (some (.builtin "getset_descriptor.__get__"))) && decide (PySem.W.takesIn K (.builtin "object.__class__") = some true)
  | .cf C => He.eqO (PySem.W.findIn K (.ref (He.ga K C)) "__class__") (some (some (.builtin "object.__class__"))) && (decide (PySem.W.mroIn K (He.ga K C) (.type "object") = some true) && builtTs.all fun T => decide (PySem.W.kitOne K (.type T) (.ref (He.ga K C)) = some false) && decide (PySem.W.kitOne K (.ref (He.ga K C)) (.type T) = some false))
  | .kit C D b => decide (PySem.W.kitOne K (.ref (He.ga K C)) (.ref (He.ga K D)) = some b)
  | .tup x vs => He.tupB K x vs
  | .dvs x kvs => He.valsB K (He.ga K x) kvs
section
variable {K : PySem.W.Frag}
theorem prop_ok {C f : Str} (c : (Fc.prop C f).ok K = true) : PropOf K (He.ga K C) f (He.ma K (He.ga K C) f) (Pl.at_ K (.p C f)) := by
  obtain ⟨c1, c⟩ := He.ba c
  obtain ⟨c2, c⟩ := He.ba c
  obtain ⟨c3, c4⟩ := He.ba c
  refine ⟨He.eqO_ok c1, He.eqO_ok c2, of_decide_eq_true c3, ?_⟩
  split at c4
  · rename_i a r e
    refine ⟨r, ?_⟩
    show _ = some (Value.ref (getO K (He.ma K (He.ga K C) f)) :: r)
    unfold getO
    rw [e]
  · cases c4
theorem eqm_ok {C : Str} (c : (Fc.eqm C).ok K = true) : PySem.W.findIn K (.ref (He.ga K C)) "__eq__" = some (some (.ref (Pl.at_ K (.m C "__eq__")))) := He.eqO_ok c
theorem obj_ok (c : Fc.obj.ok K = true) : PySem.W.specialIn K (.builtin "object.__class__") "__get__" = some (some (.builtin "getset_descriptor.__get__")) ∧ PySem.W.takesIn K (.builtin "object.__class__") = some true := by
  unfold Fc.ok at c
  obtain ⟨c1, c2⟩ := Bool.and_eq_true_iff.mp c
  exact ⟨He.eqO_ok c1, of_decide_eq_true c2⟩
theorem cf_ok {C : Str} (c : (Fc.cf C).ok K = true) : PySem.W.findIn K (.ref (He.ga K C)) "__class__" = some (some (.builtin "object.__class__")) ∧ PySem.W.mroIn K (He.ga K C) (.type "object") = some true ∧
    ∀ T ∈ builtTs, PySem.W.kitOne K (.type T) (.ref (He.ga K C)) = some false ∧ PySem.W.kitOne K (.ref (He.ga K C)) (.type T) = some false := by
  obtain ⟨c1, c⟩ := He.ba c
  obtain ⟨c2, c3⟩ := He.ba c
  refine ⟨He.eqO_ok c1, of_decide_eq_true c2, fun T hT => ?_⟩
  obtain ⟨c4, c5⟩ := He.ba (List.all_eq_true.mp c3 T hT)
  exact ⟨of_decide_eq_true c4, of_decide_eq_true c5⟩
theorem kit_ok {C D : Str} {b : Bool} (c : (Fc.kit C D b).ok K = true) : PySem.W.kitOne K (.ref (He.ga K C)) (.ref (He.ga K D)) = some b := of_decide_eq_true c
end
end Fl
set_option Elab.async false
set_option linter.all false
set_option maxRecDepth 100000
set_option maxHeartbeats 16000000
/-! Layer F, part 39: the hook: facts, defs, empty tables. -/
namespace Fl
open PySem PySem.Spec PyProof.Rows L2 NdefX LamX
def isTab (o : Obj) : Bool := match o.cls, o.data with
  | .none, .fields vs => vs.isEmpty
  | .type t, .seq _ _ => decide (t = "list")
  | _, _ => false
def frT (g : Addr → Option Obj) (as : List Addr) : PySem.W.Frag := He.frG (fun a => match g a with
  | some o => if isTab o = true then none else some o
  | none => none) as
theorem frT_at {g : Addr → Option Obj} {as : List Addr} {a : Addr} {o : Obj} (h : (frT g as).lookup a = some o) : g a = some o ∧ isTab o = false := by
  have e := He.frG_at as h
  split at e
  · rename_i o' e1
    split at e
    · cases e
    · rename_i n
      cases e
      exact ⟨e1, by simpa using n⟩
  · cases e
def codeA (K : PySem.W.Frag) (p : Pl) : Addr := match K.lookup (p.at_ K) with
  | some ⟨_, _, .func fd, _⟩ => (match fd.code with
    | .ref c => c
    | _ => 0)
  | _ => 0
def tabA (K : PySem.W.Frag) (c : Addr) : Addr := match K.lookup c with
  | some ⟨_, _, .fields vs, _⟩ => (match vs.getD 11 .none with
    | .ref P => P
    | _ => 0)
  | _ => 0
def isRef (P : Addr) : Value → Bool
  | .ref a => decide (a = P)
  | _ => false
def hdB (c P : Addr) (vs : Array Value) : Bool := decide (11 < vs.size) && (isRef P (vs.getD 11 .none) && ((match vs.getD 18 .none with
  | .str _ _ => true
  | _ => false) && ((match vs.getD 7 .none with
  | .int _ _ => true
  | _ => false) && ((match vs.getD 9 .none with
  | .bool _ => true
  | _ => false) && ((match vs.getD 10 .none with
  | .int _ _ => true
  | _ => false) && decide (c ≠ P))))))
def codeB (K : PySem.W.Frag) (c P : Addr) : Bool := match K.lookup c with
  | some ⟨.type t, _, .fields vs, _⟩ => decide (t = "code") && hdB c P vs
  | _ => false
def emptyB (o : Option Obj) : Bool := match o with
  | some ⟨.none, none, .fields vs, sl⟩ => vs.isEmpty && sl.isEmpty
  | _ => false
theorem isRef_ok {P : Addr} {v : Value} (h : isRef P v = true) : v = .ref P := by
  cases v with
  | ref a => exact congrArg Value.ref (of_decide_eq_true h)
  | _ => cases h
theorem codeB_ok {K : PySem.W.Frag} {c P : Addr} {h : Heap} (KX : K.In h) (e : codeB K c P = true) : PySem.W.CodeHd h c P := by
  unfold codeB at e
  split at e
  · rename_i t od vs sl q
    obtain ⟨e1, e2⟩ := He.ba e
    unfold hdB at e2
    obtain ⟨a1, e2⟩ := He.ba e2
    obtain ⟨a2, e2⟩ := He.ba e2
    obtain ⟨a3, e2⟩ := He.ba e2
    obtain ⟨a4, e2⟩ := He.ba e2
    obtain ⟨a5, e2⟩ := He.ba e2
    obtain ⟨a6, a7⟩ := He.ba e2
    have a2 := isRef_ok a2
    have a1 : 11 < vs.size := of_decide_eq_true a1
    split at a3
    case h_2 => cases a3
    rename_i file tf b3
    split at a4
    case h_2 => cases a4
    rename_i flags tg b4
    split at a5
    case h_2 => cases a5
    rename_i inF b5
    split at a6
    case h_2 => cases a6
    rename_i text tt b6
    refine ⟨_, vs, file, tf, flags, tg, inF, text, tt, KX _ _ q, congrArg Value.type (of_decide_eq_true e1), rfl, ?_, a2, b3, b4, b5, b6, of_decide_eq_true a7⟩
    rw [Array.getElem?_eq_getElem a1, ← a2, Array.getD_eq_getD_getElem?, Array.getElem?_eq_getElem a1]
    rfl
  · cases e
theorem emptyB_ok {o : Option Obj} (e : emptyB o = true) : o = some { cls := .none, data := .fields #[] } := by
  unfold emptyB at e
  split at e
  · rename_i vs sl
    obtain ⟨e1, e2⟩ := He.ba e
    have e1 : vs = #[] := by simpa using e1
    have e2 : sl = #[] := by simpa using e2
    rw [e1, e2]
  · cases e
end Fl
set_option Elab.async false
set_option linter.all false
set_option maxRecDepth 100000
set_option maxHeartbeats 16000000
/-! Layer F, part 40: the hook. -/
namespace Fl
open PySem PySem.Spec PyProof.Rows L2 NdefX LamX
abbrev AlP : Type := Bool × (Bool × (Bool × (Bool × (List FnP × List (Option (List (Option (Str × Int))))))))
/-- a dict of the top with text keys -/
abbrev Dic : Type := Str × List Str
def obsP (fc : List Fc) (fn : List DefP) (tb : List Pl) (dc : List Dic) (g : Addr → Option Obj) (K : PySem.W.Frag) : AlP :=
  (fc.all fun f => f.ok K, fn.all fun d => d.ok K, tb.all fun p => codeB K (codeA K p) (tabA K (codeA K p)) && emptyB (g (tabA K (codeA K p))), decide (tb.map fun p => tabA K (codeA K p)).Nodup, fn.map fun d => fnP K d.pl, dc.map fun d => He.dicW K (He.ga K d.1))
def valP (fn : List DefP) (dc : List Dic) (w : World) : AlP := (true, true, true, true, fn.map DefP.val, dc.map fun d => some (He.keysIn w.params d.2))
structure SaysP (fcs : List Fc) (fns : List DefP) (tbs : List Pl) (dcs : List Dic) (w : World) (K : PySem.W.Frag) (h : Heap) : Prop where
  kin : K.In h
  not : ∀ a o, K.lookup a = some o → isTab o = false
  fc : ∀ f ∈ fcs, f.ok K = true
  fn : ∀ d ∈ fns, d.ok K = true ∧ fnP K d.pl = d.val
  tb : ∀ p ∈ tbs, PySem.W.CodeHd h (codeA K p) (tabA K (codeA K p)) ∧ h.get? (tabA K (codeA K p)) = some { cls := .none, data := .fields #[] }
  nd : (tbs.map fun p => tabA K (codeA K p)).Nodup
  dc : ∀ d ∈ dcs, He.dicW K (He.ga K d.1) = some (He.keysIn w.params d.2)
theorem map_eq {α β : Type} {f g : α → β} : ∀ {l : List α}, l.map f = l.map g → ∀ x ∈ l, f x = g x
  | _ :: _, h, _, .head _ => (List.cons.inj h).1
  | _ :: _, h, _, .tail _ m => map_eq (List.cons.inj h).2 _ m
def hookP (n : Nat) (fc : List Fc) (fn : List DefP) (tb : List Pl) (dc : List Dic) : PySem.W.Hook where
  α := AlP
  obs := fun s => obsP fc fn tb dc s.heap.get? (frT s.heap.get? (He.asD s.heap.get? n))
  val := fun w => valP fn dc w
  says := fun w h => ∃ K : PySem.W.Frag, SaysP fc fn tb dc w K h
  of := fun w s e => by
    have KX : (frT s.heap.get? (He.asD s.heap.get? n)).In s.heap := fun a o h => (frT_at h).1
    have e1 := congrArg (fun z : AlP => z.1) e
    have e2 := congrArg (fun z : AlP => z.2.1) e
    have e3 := congrArg (fun z : AlP => z.2.2.1) e
    have e4 := congrArg (fun z : AlP => z.2.2.2.1) e
    have e5 := congrArg (fun z : AlP => z.2.2.2.2.1) e
    have e6 := congrArg (fun z : AlP => z.2.2.2.2.2) e
    refine ⟨_, KX, fun a o h => (frT_at h).2, List.all_eq_true.mp e1, fun d hd => ⟨List.all_eq_true.mp e2 d hd, map_eq e5 d hd⟩, fun p hp => ?_, of_decide_eq_true e4, fun d hd => map_eq e6 d hd⟩
    obtain ⟨c1, c2⟩ := He.ba (List.all_eq_true.mp e3 p hp)
    exact ⟨codeB_ok KX c1, emptyB_ok c2⟩
  keeps := fun _ _ _ ⟨K, c⟩ k => ⟨K, PySem.W.Frag.In.keeps c.kin k, c.not, c.fc, c.fn, fun p hp => ⟨(c.tb p hp).1.keeps k, k _ _ (c.tb p hp).2⟩, c.nd, c.dc⟩
end Fl
set_option Elab.async false
set_option linter.all false
set_option maxRecDepth 100000
set_option maxHeartbeats 4000000
/-! Layer G, part 1: a law's data; plain parameters. -/
namespace Fl
open PySem PySem.Spec PyProof.Rows L2 NdefX LamX
/-! ### plain parameters -/
def argsB (p : Arguments) (ps : List Str) : Bool :=
  p.posonlyargs.isEmpty && (decide (p.args.map (·.arg) = ps) && (p.vararg.isNone && (p.kwonlyargs.isEmpty && (p.kw_defaults.isEmpty && (p.kwarg.isNone && (p.defaults.isEmpty && decide ps.Nodup))))))
theorem lookup_zip_mem : ∀ {ps : List Str} {us : List Value} {n : Str}, us.length = ps.length → n ∈ ps → ∃ v, (ps.zip us).lookup n = some v
  | [], _, _, _, h => by cases h
  | p :: ps, [], _, h, _ => by cases h
  | p :: ps, u :: us, n, hl, h => by
    rw [List.zip_cons_cons, List.lookup_cons]
    by_cases e : n = p
    · rw [e]; simp
    · rw [show (n == p) = false by simpa using e]
      exact lookup_zip_mem (by simpa using hl) ((List.mem_cons.mp h).resolve_left e)
theorem filterMap_zip : ∀ {ps : List Str} {us : List Value}, us.length = ps.length → ps.Nodup → ∀ (f : Str → Option (Str × Value)), (∀ n ∈ ps, f n = ((ps.zip us).lookup n).map (n, ·)) → ps.filterMap f = ps.zip us
  | [], [], _, _, _, _ => rfl
  | p :: ps, u :: us, hl, nd, f, hf => by
    rw [List.nodup_cons] at nd
    rw [List.zip_cons_cons, List.filterMap_cons, hf p (List.mem_cons_self ..), List.zip_cons_cons, List.lookup_cons]
    simp only [beq_self_eq_true, Option.map_some]
    congr 1
    refine filterMap_zip (by simpa using hl) nd.2 f fun n hn => ?_
    rw [hf n (List.mem_cons_of_mem _ hn), List.zip_cons_cons, List.lookup_cons]
    rw [show (n == p) = false by simpa using fun z => nd.1 (by rw [← z]; exact hn)]
  | [], _ :: _, h, _, _, _ => by cases h
  | _ :: _, [], h, _, _, _ => by cases h
theorem bind_plain {fd : FuncData} {ps : List Str} (h : argsB fd.params ps = true) (hd : fd.defaults = .none) {us : List Value} (hl : us.length = ps.length) : bindArgs fd ⟨us, []⟩ = pure (ps.zip us) := by
  obtain ⟨n1, n2, pr, n4, n5, n6, n7, n8, n9, n10, n11, n12, n13, n14, n15⟩ := fd
  obtain ⟨a1, a2, a3, a4, a5, a6, a7⟩ := pr
  unfold argsB at h
  simp only [Bool.and_eq_true, List.isEmpty_iff, decide_eq_true_eq, Option.isNone_iff_eq_none] at h
  obtain ⟨h1, h2, h3, h4, h5, h6, h7, nd⟩ := h
  have hd : n8 = .none := hd
  subst h1 h3 h4 h5 h6 h7 hd
  have hm : ∀ n ∈ ps, ((ps.zip us).lookup n).isNone = false := fun n hn => by
    obtain ⟨v, e⟩ := lookup_zip_mem hl hn
    rw [e]; rfl
  have hf : ps.filter (fun n => ((ps.zip us).lookup n).isNone) = [] := by
    rw [List.filter_eq_nil_iff]
    intro n hn
    rw [hm n hn]
    decide
  have hz : (ps.filterMap fun n => ((ps.zip us).lookup n).map (n, ·)) = ps.zip us := filterMap_zip hl nd _ fun _ _ => rfl
  unfold bindArgs
  have e0 : seqItems? Value.none = pure none := rfl
  simp [h2, e0, hl, hf, hz]
end Fl
set_option Elab.async false
set_option linter.all false
set_option maxRecDepth 100000
set_option maxHeartbeats 4000000
/-! Layer G, part 2: a law's data. -/
namespace Fl
open PySem PySem.Spec PyProof.Rows L2 NdefX LamX
/-- a def: where it stands, its names, its parameters' number, whether lambdas stand in it -/
structure CP where
  d : DefP
  N : List Str
  np : Nat
  lam : Bool
abbrev CP.ps (c : CP) : List Str := c.N.take c.np
abbrev CP.q (c : CP) : Str := c.d.qual ++ ".<locals>."
structure ClP where
  x : Str
  init : Nat
  props : List (Nat × Nat)
  eq : Option Nat
  flds : List Nat
structure LD where
  prog : Program
  tab : Tab
  cps : List (Nat × CP)
  cls : List (Nat × ClP)
  lamN : List (Nat × List Str)
  refs : List (Nat × Nat)
  turns : Nat
def LI.ps (i : LI) : List Str := i.params.args.map (·.arg)
namespace LD
variable (L : LD)
def src (c : CP) : Option S := mapS (trS L.tab c.N (if c.lam = true then some c.q else none) 60 c.d.scope) c.d.body
def lamsOf (c : CP) : List (Nat × LI) := match L.src c with
  | some s => lamsS s
  | none => []
def lams : List (Nat × LI) := L.cps.flatMap fun p => L.lamsOf p.2
def lN (g : Nat) (i : LI) : List Str := i.ps ++ (i.fr ++ (L.lamN.lookup g).getD [])
def lsrc (g : Nat) (i : LI) : Option E := trE L.tab (L.lN g i) 60 i.scope none i.body
def codes (g : Nat) : Option Code := match L.cps.lookup g with
  | some c => (match L.src c with
    | some s => some ⟨c.np, 0, c.N.length, s⟩
    | none => none)
  | none => (match L.lams.lookup g with
    | some i => (match L.lsrc g i with
      | some x => some ⟨i.ps.length, i.fr.length, (L.lN g i).length, .ret x⟩
      | none => none)
    | none => none)
/-- a name that no field has -/
def noName (k : Nat) : Str := ⟨(List.replicate (k + 100) 33).toArray⟩
def fldN (k : Nat) : Str := match L.tab.flds[k]? with
  | some x => x
  | none => noName k
def tcps : List (Nat × CP) := L.cps.filter fun p => p.2.lam
def fnA (K : PySem.W.Frag) (g : Nat) : Addr := match L.cps.lookup g with
  | some c => c.d.pl.at_ K
  | none => 0
def clsA (K : PySem.W.Frag) (C : Nat) : Addr := match L.cls.lookup C with
  | some c => He.ga K c.x
  | none => 0
def sc (w : World) (K : PySem.W.Frag) (mg : Str → Option Value) (base : Heap) : SC where
  P := L.prog
  w := w
  K := K
  mg := mg
  base := base
  clsA := L.clsA K
  isCls := fun C => (L.cls.lookup C).isSome
  fldN := L.fldN
  fnA := L.fnA K
  isDef := fun g => (L.cps.lookup g).isSome
  lam := fun g => L.lams.lookup g
  T := L.tcps.map fun p => (tabA K (codeA K p.2.d.pl), fun _ _ => p.2.q ++ "<lambda>")
  excV := fun _ => .none
def ci (C : Nat) : CI := match L.cls.lookup C with
  | some c => ⟨c.props, c.eq, c.flds⟩
  | none => ⟨[], none, []⟩
def pi : PI := ⟨L.ci, fun f j => L.refs.contains (f, j), L.turns⟩
/-! ### the facts that the head must tell -/
def dvOf : D → He.Dv
  | .int i => .int i
  | .str x => .str x
  | _ => .ty "none"
def flatC1 : D → Bool
  | .int _ => true
  | .str _ => true
  | _ => false
def constF : Str × D → List Fc
  | (x, .int i) => [.he (.int x i)]
  | (x, .str z) => [.he (.str x z)]
  | (x, .tk ds) => [.he (.glo x), .tup x (ds.map dvOf)]
  | (x, .ck kvs) => [.he (.glo x), .dvs x (kvs.map fun p => (p.1, dvOf p.2))]
  | _ => []
def constB : Str × D → Bool
  | (_, .int _) => true
  | (_, .str _) => true
  | (_, .tk ds) => ds.all flatC1
  | (_, .ck kvs) => kvs.all fun p => flatC1 p.2
  | _ => false
def clsF (c : ClP) : List Fc := [.he (.glo c.x), .he (.cls c.x), .cf c.x, .he (.mkr c.x)] ++ (c.props.map (fun p => .prop c.x (L.fldN p.1)) ++ ((match c.eq with
  | some _ => [.eqm c.x]
  | none => []) ++ c.flds.map fun f => .he (.noat c.x (L.fldN f))))
def kits : List Fc := L.cls.flatMap fun p => L.cls.map fun q => .kit p.2.x q.2.x (decide (p.1 = q.1))
def fcs : List Fc := [.obj] ++ (L.tab.consts.flatMap constF ++ (L.tab.defs.map (fun p => .he (.glo p.1)) ++ ((L.cls.flatMap fun p => L.clsF p.2) ++ (L.kits ++ L.tab.blts.map fun b => .he (.free b)))))
def fns : List DefP := L.cps.map fun p => p.2.d
def tbs : List Pl := L.tcps.map fun p => p.2.d.pl
def dcs : List Dic := L.tab.consts.filterMap fun p => match p with
  | (x, .ck kvs) => some (x, kvs.map (·.1))
  | _ => none
/-! ### what is to be looked at -/
def fscB (N ps : List Str) (sc : Scope) : Bool :=
  decide (sc.kind = .function) && (!sc.isCoroutine && (!sc.isGenerator && (decide N.Nodup && (decide (N.take ps.length = ps) && ((ps.all fun x => decide (sc.names.lookup x = some .local) || decide (sc.names.lookup x = some .cell)) && sc.names.all fun y => !decide (y.2 = .free))))))
def cpB (p : Nat × CP) : Bool := decide (p.1 < 1000) && (decide (p.2.np ≤ p.2.N.length) && ((L.src p.2).isSome && (fscB p.2.N p.2.ps p.2.d.scope && argsB p.2.d.params p.2.ps)))
def lamB1 (p : Nat × LI) : Bool := decide (1000 ≤ p.1) && (nscB (L.lN p.1 p.2) p.2.ps p.2.fr p.2.scope && (argsB p.2.params p.2.ps && (match L.lsrc p.1 p.2 with
  | some x => (lamsE x).isEmpty
  | none => false)))
def plB (g : Nat) (pl : Pl) (n : Option Nat) : Bool := match L.cps.lookup g with
  | some c => decide (c.d.pl = pl) && (match n with
    | some n => decide (c.np = n)
    | none => true)
  | none => false
def clsB (c : ClP) : Bool := L.plB c.init (.m c.x "__init__") none && ((c.props.all fun p => L.plB p.2 (.p c.x (L.fldN p.1)) (some 1)) && (match c.eq with
  | some g => L.plB g (.m c.x "__eq__") (some 2)
  | none => true))
def mkB (p : Str × Nat × Nat) : Bool := match L.cls.lookup p.2.1 with
  | some c => decide (c.x = p.1) && decide (c.init = p.2.2)
  | none => false
def okB : Bool := (L.cps.all fun p => L.cpB p) && ((L.lams.all fun p => L.lamB1 p) && (decide (L.lams.map (·.1)).Nodup && (decide L.tab.flds.Nodup && (decide (∀ x ∈ L.tab.flds, x.length < 100) && ((L.tab.defs.all fun p => L.plB p.2 (.g p.1) none) && ((L.tab.clss.all fun p => L.mkB p) && ((L.cls.all fun p => L.clsB p.2) && L.tab.consts.all constB)))))))
/-- calls by keywords -/
def KwOk : Prop := ∀ g n ks p, (g, n, ks, p) ∈ L.tab.kwT → ∀ c, L.cps.lookup g = some c → ∀ (doc pm cdv ct : Value) (an : Option Addr) (us ws : List Value), us.length = n → ws.length = ks.length →
  ∃ xs, pick (us ++ ws) p = some xs ∧ bindArgs (PySem.W.fnOf c.d.name c.d.qual c.d.params c.d.body c.d.scope .none .none doc pm an cdv ct) ⟨us, ks.zip ws⟩ = pure (c.ps.zip xs)
end LD
end Fl
set_option Elab.async false
set_option linter.all false
set_option maxRecDepth 100000
set_option maxHeartbeats 4000000
/-! Layer G, part 3: the facts of the text. -/
namespace Fl
open PySem PySem.Spec PyProof.Rows L2 NdefX LamX
theorem look_mem {β : Type} : ∀ {l : List (Nat × β)} {k : Nat} {b : β}, l.lookup k = some b → (k, b) ∈ l
  | (a, c) :: r, k, b, h => by
    rw [List.lookup_cons] at h
    split at h
    · rename_i e
      cases h
      rw [beq_iff_eq.mp e]
      exact List.mem_cons_self ..
    · exact List.mem_cons_of_mem _ (look_mem h)
theorem look_memS {β : Type} : ∀ {l : List (Str × β)} {k : Str} {b : β}, l.lookup k = some b → (k, b) ∈ l
  | (a, c) :: r, k, b, h => by
    rw [List.lookup_cons] at h
    split at h
    · rename_i e
      cases h
      rw [beq_iff_eq.mp e]
      exact List.mem_cons_self ..
    · exact List.mem_cons_of_mem _ (look_memS h)
theorem look_nd {β : Type} : ∀ {l : List (Nat × β)} {k : Nat} {b : β}, (l.map (·.1)).Nodup → (k, b) ∈ l → l.lookup k = some b
  | (a, c) :: r, k, b, nd, h => by
    rw [List.map_cons, List.nodup_cons] at nd
    rw [List.lookup_cons]
    rcases List.mem_cons.mp h with e | h
    · cases e
      simp
    · have ne : ¬ k = a := fun z => nd.1 (List.mem_map.mpr ⟨(k, b), h, z⟩)
      rw [show (k == a) = false by simpa using ne]
      exact look_nd nd.2 h
theorem nd_inj {α β : Type} {f : α → β} : ∀ {l : List α} {a b : α}, (l.map f).Nodup → a ∈ l → b ∈ l → f a = f b → a = b
  | x :: r, a, b, nd, ha, hb, e => by
    rw [List.map_cons, List.nodup_cons] at nd
    rcases List.mem_cons.mp ha with ea | ha'
    · rcases List.mem_cons.mp hb with eb | hb'
      · rw [ea, eb]
      · exact (nd.1 (List.mem_map.mpr ⟨b, hb', by rw [← e, ea]⟩)).elim
    · rcases List.mem_cons.mp hb with eb | hb'
      · exact (nd.1 (List.mem_map.mpr ⟨a, ha', by rw [e, eb]⟩)).elim
      · exact nd_inj nd.2 ha' hb' e
theorem nd_inj' {α β : Type} {f g : α → β} {l : List α} {a b : α} (nd : (l.map f).Nodup) (ha : a ∈ l) (hb : b ∈ l) (e : f a = f b) : g a = g b := by rw [nd_inj nd ha hb e]
theorem fsc_by {N ps : List Str} {sc : Scope} (h : LD.fscB N ps sc = true) : FnScope N ps sc := by
  unfold LD.fscB at h
  simp only [Bool.and_eq_true, Bool.not_eq_true', decide_eq_true_eq, List.all_eq_true, Bool.or_eq_true, decide_eq_false_iff_not] at h
  obtain ⟨h1, h2, h3, h4, h5, h6, h7⟩ := h
  exact ⟨h1, h2, h3, h4, h5, h6, h7⟩
namespace LD
variable {L : LD}
structure Ok (L : LD) : Prop where
  cp : ∀ g c, L.cps.lookup g = some c → L.cpB (g, c) = true
  lm : ∀ p ∈ L.lams, L.lamB1 p = true
  nd : (L.lams.map (·.1)).Nodup
  fl : L.tab.flds.Nodup
  fs : ∀ x ∈ L.tab.flds, x.length < 100
  df : ∀ p ∈ L.tab.defs, L.plB p.2 (.g p.1) none = true
  mkc : ∀ p ∈ L.tab.clss, L.mkB p = true
  cl : ∀ p ∈ L.cls, L.clsB p.2 = true
  co : ∀ p ∈ L.tab.consts, constB p = true
theorem ok_of (h : L.okB = true) : L.Ok := by
  unfold okB at h
  simp only [Bool.and_eq_true, decide_eq_true_eq] at h
  obtain ⟨h1, h2, h3, h4, h5, h6, h7, h8, h9⟩ := h
  exact ⟨fun g c e => List.all_eq_true.mp h1 _ (look_mem e), List.all_eq_true.mp h2, h3, h4, h5, List.all_eq_true.mp h6, List.all_eq_true.mp h7, List.all_eq_true.mp h8, List.all_eq_true.mp h9⟩
theorem pl_ok {g : Nat} {pl : Pl} {n : Option Nat} (h : L.plB g pl n = true) : ∃ c, L.cps.lookup g = some c ∧ c.d.pl = pl ∧ ∀ m, n = some m → c.np = m := by
  unfold plB at h
  cases e : L.cps.lookup g with
  | none => rw [e] at h; cases h
  | some c =>
    rw [e] at h
    obtain ⟨h1, h2⟩ := He.ba h
    refine ⟨c, rfl, of_decide_eq_true h1, fun m em => ?_⟩
    subst em
    exact of_decide_eq_true h2
/-! ### names of fields -/
theorem noName_len (k : Nat) : (noName k).length = k + 100 := by
  unfold noName
  simp [Str.length]
theorem fldN_inj (o : L.Ok) {f g : Nat} (h : L.fldN f = L.fldN g) : f = g := by
  unfold fldN at h
  cases e1 : L.tab.flds[f]? with
  | none =>
    rw [e1] at h
    cases e2 : L.tab.flds[g]? with
    | none =>
      rw [e2] at h
      have := congrArg Str.length h
      rw [noName_len, noName_len] at this
      omega
    | some y =>
      rw [e2] at h
      have h : noName f = y := h
      have := o.fs y (List.mem_of_getElem? e2)
      rw [← h, noName_len] at this
      omega
  | some x =>
    rw [e1] at h
    cases e2 : L.tab.flds[g]? with
    | none =>
      rw [e2] at h
      have h : x = noName g := h
      have := o.fs x (List.mem_of_getElem? e1)
      rw [h, noName_len] at this
      omega
    | some y =>
      rw [e2] at h
      have h : x = y := h
      subst h
      obtain ⟨h1, h2⟩ := List.getElem?_eq_some_iff.mp e1
      obtain ⟨h3, h4⟩ := List.getElem?_eq_some_iff.mp e2
      exact (List.getElem_inj o.fl).mp (h2.trans h4.symm)
theorem fldN_idx {f : Str} {k : Nat} (h : idx L.tab.flds f = some k) : L.fldN k = f := by
  unfold fldN
  rw [idx_ok h]
/-! ### the constants -/
section
variable {w : World} {K : PySem.W.Frag} {h : Heap} {mg : Str → Option Value} {base : Heap}
theorem flat_rp {c : SC} {H : Hp} {d : D} (hd : flatC1 d = true) : Rp c H ((dvOf d).v K) d := by
  cases d with
  | int i => exact .int i
  | str x => exact .str x
  | _ => cases hd
theorem flat_rpL {c : SC} {H : Hp} : ∀ {ds : List D}, ds.all flatC1 = true → RpL c H ((ds.map dvOf).map (He.Dv.v K)) ds
  | [], _ => .nil
  | d :: ds, hd => by
    rw [List.all_cons, Bool.and_eq_true] at hd
    exact .cons (flat_rp hd.1) (flat_rpL hd.2)
theorem ktup_of {x : Str} {vs : List He.Dv} (h : He.tupB K x vs = true) : KTup K (He.ga K x) (vs.map (He.Dv.v K)) := by
  rcases He.tupB_ok h (fun _ => none) with z | z
  · rcases z with z | ⟨o, z⟩ <;> cases z
  · exact z
theorem nsIn_none {a : Addr} {es : Array DictEntry} {n : Nat} {ks : List Str} (at_ : K.lookup a = some ⟨.type "dict", none, .dict es n, #[]⟩) {P : Params} (hk : es.toList.map He.keyOf = He.keysIn P ks) {z : Str} (hz : z ∉ ks) : PySem.W.nsIn K a z = some none := by
  have key : ∀ {l : List DictEntry} {ks : List Str}, l.map He.keyOf = He.keysIn P ks → z ∉ ks → l.find? (·.key.isStr z) = none ∧ l.any (·.refKey) = false := by
    intro l
    induction l with
    | nil => intro ks _ _; exact ⟨rfl, rfl⟩
    | cons e r ih =>
      intro ks h hz
      cases ks with
      | nil => cases h
      | cons k ks =>
        have h1 : He.keyOf e :: r.map He.keyOf = some (k, PyData.keyHash P k) :: He.keysIn P ks := h
        injection h1 with h2 h3
        obtain ⟨i1, i2⟩ := ih h3 (fun m => hz (List.mem_cons_of_mem _ m))
        unfold He.keyOf at h2
        split at h2
        · rename_i x t q
          have h4 := Option.some.inj h2
          obtain ⟨h5, h6⟩ := Prod.mk.inj h4
          subst h5
          have ne : ¬ x = z := fun y => hz (by rw [y]; exact List.mem_cons_self ..)
          constructor
          · rw [List.find?_cons]
            have : e.key.isStr z = false := by rw [q]; simpa [Value.isStr] using ne
            rw [this]
            exact i1
          · rw [List.any_cons, i2, Bool.or_false]
            unfold DictEntry.refKey
            rw [q]
        · cases h2
  obtain ⟨k1, k2⟩ := key hk hz
  unfold PySem.W.nsIn
  rw [at_]
  show (match es.toList.find? (·.key.isStr z) with
      | some e => some (some e.val)
      | none => if es.toList.any (·.refKey) then none else some none) = _
  rw [k1]
  show (if es.toList.any (·.refKey) = true then none else some none) = _
  rw [k2]
  rfl
theorem dGet_mem {ks : List (Str × V)} {z : Str} {v : V} (h : dGet ks z = some v) : (z, v) ∈ ks := by
  induction ks with
  | nil => cases h
  | cons p r ih =>
    obtain ⟨k, u⟩ := p
    unfold dGet at h
    split at h
    · rename_i e
      cases h
      rw [← e]
      exact List.mem_cons_self ..
    · exact List.mem_cons_of_mem _ (ih h)
theorem dGet_no {ks : List (Str × V)} {z : Str} (h : dGet ks z = none) : z ∉ ks.map (·.1) := by
  induction ks with
  | nil => simp
  | cons p r ih =>
    obtain ⟨k, u⟩ := p
    unfold dGet at h
    split at h
    · cases h
    · rename_i e
      rw [List.map_cons, List.mem_cons]
      rintro (q | q)
      · exact e q.symm
      · exact ih h q
theorem kdc_of {x : Str} {kvs : List (Str × D)} (hw : He.dicW K (He.ga K x) = some (He.keysIn w.params (kvs.map (·.1)))) (hv : He.valsB K (He.ga K x) (kvs.map fun p => (p.1, dvOf p.2)) = true) :
    KDc (L.sc w K mg base) (He.ga K x) (kvs.map fun p => (p.1, (dvOf p.2).v K)) := by
  obtain ⟨es, n, kd⟩ := He.dicW_ok hw
  refine ⟨es, n, kd, fun z v e => ?_, fun z e => ?_⟩
  · obtain ⟨p, hp, e2⟩ := List.mem_map.mp (dGet_mem e)
    cases e2
    exact He.valsB_ok hv (q := (p.1, dvOf p.2)) (List.mem_map.mpr ⟨p, hp, rfl⟩)
  · have at_ := kd.at_
    have hk : es.toList.map He.keyOf = He.keysIn w.params (kvs.map (·.1)) := by
      unfold He.dicW at hw
      rw [at_] at hw
      have hw : (match decide ("dict" = "dict") && ((#[] : Array (Option Value)).isEmpty && !(He.ga K x == sysModules)) with
        | true => some (es.toList.map He.keyOf)
        | false => none) = some (He.keysIn w.params (kvs.map (·.1))) := hw
      rw [kd.low] at hw
      exact Option.some.inj hw
    refine nsIn_none at_ hk fun hm => dGet_no e ?_
    rw [List.map_map]
    exact hm
theorem const_ok (o : L.Ok) (sy : SaysP L.fcs L.fns L.tbs L.dcs w K h) (G : h.Ns mainGlobals mg) {x : Str} {d : D} (hm : L.tab.consts.lookup x = some d) : ∃ v u, mg x = some u ∧ L2.RelV v u ∧ ∀ H, Rp (L.sc w K mg base) H v d := by
  have hm := look_memS hm
  have hc := o.co _ hm
  have fact : ∀ f ∈ constF (x, d), f.ok K = true := fun f hf => sy.fc f (by
    unfold fcs
    exact List.mem_append_right _ (List.mem_append_left _ (List.mem_flatMap.mpr ⟨_, hm, hf⟩)))
  cases d with
  | int i =>
    obtain ⟨t, e⟩ := He.int_ok sy.kin G (fact (.he (.int x i)) (List.mem_cons_self ..))
    exact ⟨.int i, _, e, ⟨t, rfl⟩, fun H => .int i⟩
  | str z =>
    obtain ⟨t, e⟩ := He.str_ok sy.kin G (fact (.he (.str x z)) (List.mem_cons_self ..))
    exact ⟨.str z, _, e, ⟨t, rfl⟩, fun H => .str z⟩
  | tk ds =>
    have e := He.glo_ok sy.kin G (fact (.he (.glo x)) (List.mem_cons_self ..))
    have t := fact (.tup x (ds.map dvOf)) (List.mem_cons_of_mem _ (List.mem_cons_self ..))
    exact ⟨.ref (He.ga K x), _, e, rfl, fun H => .tk (ktup_of t) (flat_rpL hc)⟩
  | ck kvs =>
    have e := He.glo_ok sy.kin G (fact (.he (.glo x)) (List.mem_cons_self ..))
    have t := fact (.dvs x (kvs.map fun p => (p.1, dvOf p.2))) (List.mem_cons_of_mem _ (List.mem_cons_self ..))
    have dw := sy.dc (x, kvs.map (·.1)) (by
      unfold dcs
      exact List.mem_filterMap.mpr ⟨_, hm, rfl⟩)
    have hc : ((kvs.map (·.2)).all flatC1) = true := by
      rw [List.all_map]
      exact hc
    refine ⟨.ref (He.ga K x), _, e, rfl, fun H => .ck (kdc_of dw t) (by rw [List.map_map]; rfl) rfl ?_⟩
    have := flat_rpL (K := K) (c := L.sc w K mg base) (H := H) hc
    rw [List.map_map, List.map_map] at this
    rw [List.map_map]
    exact this
  | _ => cases hc
end
end LD
end Fl
set_option Elab.async false
set_option linter.all false
set_option maxRecDepth 100000
set_option maxHeartbeats 4000000
/-! Layer G, part 4: the text's facts, whole. -/
namespace Fl
open PySem PySem.Spec PyProof.Rows L2 NdefX LamX
namespace LD
section
variable {L : LD} {w : World} {K : PySem.W.Frag} {h : Heap} {mg : Str → Option Value} {base : Heap}
theorem f_def {x : Str} {k : Nat} (hm : (x, k) ∈ L.tab.defs) : (Fc.he (.glo x)) ∈ L.fcs := by
  unfold fcs
  exact List.mem_append_right _ (List.mem_append_right _ (List.mem_append_left _ (List.mem_map.mpr ⟨_, hm, rfl⟩)))
theorem f_cls {C : Nat} {c : ClP} (hm : (C, c) ∈ L.cls) {f : Fc} (hf : f ∈ L.clsF c) : f ∈ L.fcs := by
  unfold fcs
  exact List.mem_append_right _ (List.mem_append_right _ (List.mem_append_right _ (List.mem_append_left _ (List.mem_flatMap.mpr ⟨_, hm, hf⟩))))
theorem f_kit {C E : Nat} {c e : ClP} (hm : (C, c) ∈ L.cls) (he : (E, e) ∈ L.cls) : Fc.kit c.x e.x (decide (C = E)) ∈ L.fcs := by
  unfold fcs
  refine List.mem_append_right _ (List.mem_append_right _ (List.mem_append_right _ (List.mem_append_right _ (List.mem_append_left _ ?_))))
  exact List.mem_flatMap.mpr ⟨_, hm, List.mem_map.mpr ⟨_, he, rfl⟩⟩
theorem f_blt {b : Str} (hm : b ∈ L.tab.blts) : (Fc.he (.free b)) ∈ L.fcs := by
  unfold fcs
  exact List.mem_append_right _ (List.mem_append_right _ (List.mem_append_right _ (List.mem_append_right _ (List.mem_append_right _ (List.mem_map.mpr ⟨_, hm, rfl⟩)))))
theorem f_obj : Fc.obj ∈ L.fcs := by
  unfold fcs
  exact List.mem_append_left _ (List.mem_singleton.mpr rfl)
theorem clsF0 (c : ClP) {f : Fc} (hf : f ∈ [Fc.he (.glo c.x), .he (.cls c.x), .cf c.x, .he (.mkr c.x)]) : f ∈ L.clsF c := List.mem_append_left _ hf
theorem clsFp (c : ClP) {p : Nat × Nat} (hp : p ∈ c.props) : Fc.prop c.x (L.fldN p.1) ∈ L.clsF c := List.mem_append_right _ (List.mem_append_left _ (List.mem_map.mpr ⟨_, hp, rfl⟩))
theorem clsFe (c : ClP) {g : Nat} (hp : c.eq = some g) : Fc.eqm c.x ∈ L.clsF c := by
  unfold clsF
  rw [hp]
  exact List.mem_append_right _ (List.mem_append_right _ (List.mem_append_left _ (List.mem_singleton.mpr rfl)))
theorem clsFf (c : ClP) {f : Nat} (hp : f ∈ c.flds) : Fc.he (.noat c.x (L.fldN f)) ∈ L.clsF c := List.mem_append_right _ (List.mem_append_right _ (List.mem_append_right _ (List.mem_map.mpr ⟨_, hp, rfl⟩)))
theorem isC {C : Nat} (hC : (L.sc w K mg base).isCls C = true) : ∃ c, L.cls.lookup C = some c ∧ (C, c) ∈ L.cls ∧ (L.sc w K mg base).clsA C = He.ga K c.x := by
  have hC : (L.cls.lookup C).isSome = true := hC
  cases e : L.cls.lookup C with
  | none => rw [e] at hC; cases hC
  | some c =>
    refine ⟨c, rfl, look_mem e, ?_⟩
    show L.clsA K C = _
    unfold clsA
    rw [e]
theorem cf_of (sy : SaysP L.fcs L.fns L.tbs L.dcs w K h) : CF (L.sc w K mg base) := by
  have m2 : ∀ {α : Type} {a b : α} {l : List α}, b ∈ a :: b :: l := fun {_ a b l} => List.mem_cons_of_mem _ (List.mem_cons_self ..)
  have m3 : ∀ {α : Type} {a b c : α} {l : List α}, c ∈ a :: b :: c :: l := fun {_ a b c l} => List.mem_cons_of_mem _ (List.mem_cons_of_mem _ (List.mem_cons_self ..))
  refine ⟨fun C hC => ?_, fun C hC => ?_, (obj_ok (sy.fc _ f_obj)).1, (obj_ok (sy.fc _ f_obj)).2, fun C hC => ?_, fun C hC T hT => ?_, fun C E hC hE => ?_⟩
  · obtain ⟨c, _, hm, e⟩ := isC hC
    rw [e]
    exact He.cls_ok (sy.fc _ (f_cls hm (clsF0 c m2)))
  · obtain ⟨c, _, hm, e⟩ := isC hC
    rw [e]
    exact (cf_ok (sy.fc _ (f_cls hm (clsF0 c m3)))).1
  · obtain ⟨c, _, hm, e⟩ := isC hC
    rw [e]
    exact (cf_ok (sy.fc _ (f_cls hm (clsF0 c m3)))).2.1
  · obtain ⟨c, _, hm, e⟩ := isC hC
    rw [e]
    exact (cf_ok (sy.fc _ (f_cls hm (clsF0 c m3)))).2.2 T hT
  · obtain ⟨c, _, hm, e⟩ := isC hC
    obtain ⟨c', _, hm', e'⟩ := isC hE
    rw [e, e']
    exact kit_ok (sy.fc _ (f_kit hm hm'))
theorem fnA_of {g : Nat} {c : CP} (e : L.cps.lookup g = some c) : L.fnA K g = c.d.pl.at_ K := by
  unfold fnA
  rw [e]
theorem code_ref {K : PySem.W.Frag} {cdv : Value} {q : Str} (h : PySem.W.codeIn K cdv q = true) : ∃ c, cdv = .ref c := by
  cases cdv with
  | ref c => exact ⟨c, rfl⟩
  | _ => cases h
theorem codeA_of {K : PySem.W.Frag} {pl : Pl} {oc : Value} {od : Option Addr} {fd : FuncData} {osl : Array (Option Value)} {c : Addr} (e : K.lookup (pl.at_ K) = some ⟨oc, od, .func fd, osl⟩) (hc : fd.code = .ref c) : codeA K pl = c := by
  unfold codeA
  rw [e]
  show (match fd.code with
    | .ref c => c
    | _ => 0) = _
  rw [hc]
theorem defF_of (o : L.Ok) (kw : L.KwOk) (sy : SaysP L.fcs L.fns L.tbs L.dcs w K h) (TB : ∀ p ∈ L.tbs, TabB base mg (codeA K p) (tabA K (codeA K p))) {g : Nat} {c : CP} (e : L.cps.lookup g = some c) : DefF (L.sc w K mg base) L.tab L.codes g c.ps := by
  obtain ⟨c1, c2⟩ := sy.fn c.d (List.mem_map.mpr ⟨_, look_mem e, rfl⟩)
  obtain ⟨kp, isf, oc, od, osl, doc, pm, an, cdv, ct, lk, hcd⟩ := DefP.look c2 c1
  have hb := o.cp g c e
  unfold cpB at hb
  simp only [Bool.and_eq_true, decide_eq_true_eq] at hb
  obtain ⟨b1, b2, b3, b4, b5⟩ := hb
  have hA : (L.sc w K mg base).fnA g = c.d.pl.at_ K := fnA_of e
  have hl : c.ps.length = c.np := by
    show (c.N.take c.np).length = c.np
    rw [List.length_take]
    omega
  cases es : L.src c with
  | none => rw [es] at b3; cases b3
  | some S' =>
    refine ⟨⟨c.d.name, c.d.qual, c.d.params, c.d.body, c.d.scope, .none, .none, doc, pm, cdv, ct, oc, an, od, osl, c.N, 60, S', if c.lam = true then some c.q else none, ?_, hcd, fsc_by b4, ?_, es, ?_, ?_, ?_, ?_⟩, ?_, ?_⟩
    · rw [hA]; exact lk
    · rw [hl]
      unfold codes
      rw [e]
      show (match L.src c with
        | some s => some (⟨c.np, 0, c.N.length, s⟩ : Code)
        | none => none) = _
      rw [es]
    · intro p hp
      refine look_nd o.nd ?_
      unfold lams
      refine List.mem_flatMap.mpr ⟨_, look_mem e, ?_⟩
      unfold lamsOf
      rw [es]
      exact hp
    · intro q' hq
      split at hq
      · rename_i hlam
        cases hq
        refine ⟨rfl, ?_⟩
        obtain ⟨cc, rfl⟩ := code_ref hcd
        have ec : codeA K c.d.pl = cc := codeA_of lk rfl
        have hin : (g, c) ∈ L.tcps := List.mem_filter.mpr ⟨look_mem e, hlam⟩
        have hpl : c.d.pl ∈ L.tbs := List.mem_map.mpr ⟨_, hin, rfl⟩
        refine ⟨cc, tabA K cc, fun _ _ => c.q ++ "<lambda>", rfl, ?_, List.mem_map.mpr ⟨_, hin, ?_⟩, fun p hp ep => ?_, fun _ _ => rfl⟩
        · have := TB _ hpl
          rw [ec] at this
          exact this
        · rw [← ec]
        · obtain ⟨q, hq, rfl⟩ := List.mem_map.mp hp
          have nd := sy.nd
          unfold tbs at nd
          rw [List.map_map] at nd
          rw [nd_inj nd hq hin (by
            show tabA K (codeA K q.2.d.pl) = tabA K (codeA K c.d.pl)
            rw [ec]
            exact ep)]
      · cases hq
    · exact Binds.all fun us hu => bind_plain b5 rfl hu
    · intro n ks p hm s us ws h1 h2
      obtain ⟨xs, x1, x2⟩ := kw g n ks p hm c e doc pm cdv ct an us ws h1 h2
      exact ⟨xs, x1, .of_eq x2⟩
    · rw [hA]; exact kp
    · rw [hA]; exact isf
theorem lamD_of (o : L.Ok) {g : Nat} {i : LI} (e : (L.sc w K mg base).lam g = some i) : LamD (L.sc w K mg base) L.tab L.codes g i := by
  have e : L.lams.lookup g = some i := e
  have hb := o.lm _ (look_mem e)
  unfold lamB1 at hb
  simp only [Bool.and_eq_true, decide_eq_true_eq] at hb
  obtain ⟨b1, b2, b3, b4⟩ := hb
  cases es : L.lsrc g i with
  | none => rw [es] at b4; cases b4
  | some x =>
    rw [es] at b4
    have b4 : (lamsE x).isEmpty = true := b4
    refine ⟨L.lN g i, i.ps, 60, x, nscope_by b2, fun cl c' pm ctv us hu => bind_plain b3 rfl hu, ?_, es, fun p hp => ?_⟩
    · have none_ : L.cps.lookup g = none := by
        cases q : L.cps.lookup g with
        | none => rfl
        | some c =>
          have hc := o.cp g c q
          unfold cpB at hc
          simp only [Bool.and_eq_true, decide_eq_true_eq] at hc
          have := hc.1
          have b1 : 1000 ≤ g := b1
          have hc : g < 1000 := hc.1
          omega
      unfold codes
      rw [none_]
      show (match L.lams.lookup g with
        | some i => (match L.lsrc g i with
          | some x => some (⟨i.ps.length, i.fr.length, (L.lN g i).length, .ret x⟩ : Code)
          | none => none)
        | none => none) = _
      rw [e]
      show (match L.lsrc g i with
          | some x => some (⟨i.ps.length, i.fr.length, (L.lN g i).length, .ret x⟩ : Code)
          | none => none) = _
      rw [es]
    · rw [List.isEmpty_iff.mp b4] at hp
      cases hp
theorem stf (o : L.Ok) (kw : L.KwOk) (sy : SaysP L.fcs L.fns L.tbs L.dcs w K h) (G : h.Ns mainGlobals mg) (TB : ∀ p ∈ L.tbs, TabB base mg (codeA K p) (tabA K (codeA K p))) : StF (L.sc w K mg base) L.tab L.pi L.codes := by
  have ciE : ∀ {C : Nat} {c : ClP}, L.cls.lookup C = some c → L.pi.ci C = ⟨c.props, c.eq, c.flds⟩ := fun {C c} e => by
    show L.ci C = _
    unfold ci
    rw [e]
  have clB : ∀ {C : Nat} {c : ClP}, (C, c) ∈ L.cls → L.plB c.init (.m c.x "__init__") none = true ∧ (∀ p ∈ c.props, L.plB p.2 (.p c.x (L.fldN p.1)) (some 1) = true) ∧ ∀ g, c.eq = some g → L.plB g (.m c.x "__eq__") (some 2) = true := fun {C c} hm => by
    have hb := o.cl _ hm
    unfold clsB at hb
    simp only [Bool.and_eq_true, List.all_eq_true] at hb
    obtain ⟨b1, b2, b3⟩ := hb
    refine ⟨b1, b2, fun g eg => ?_⟩
    have b3 : (match c.eq with
      | some g => L.plB g (.m c.x "__eq__") (some 2)
      | none => true) = true := b3
    rw [eg] at b3
    exact b3
  refine ⟨cf_of sy, fun f k e => fldN_idx e, fun x d e => const_ok o sy G e, fun x hx => ?_, fun g hg => ?_, fun x k hk => ?_, fun x C f hx => ?_, fun C f g hC hp => ?_, fun C f hC hf => ?_, fun f g e => fldN_inj o e, fun C f hC he => ?_, fun g i e => lamD_of o e, fun k i e => ?_⟩
  · exact He.free_ok sy.kin G (sy.fc _ (f_blt (by simpa using hx)))
  · have hg : (L.cps.lookup g).isSome = true := hg
    cases e : L.cps.lookup g with
    | none => rw [e] at hg; cases hg
    | some c => exact ⟨_, defF_of o kw sy TB e⟩
  · have hm := look_memS hk
    obtain ⟨c, e, ep, _⟩ := pl_ok (o.df _ hm)
    have gl := He.glo_ok sy.kin G (sy.fc _ (f_def hm))
    have hA : (L.sc w K mg base).fnA k = He.ga K x := by
      show L.fnA K k = _
      rw [fnA_of e, ep]
      rfl
    refine ⟨by rw [hA]; exact gl, ?_⟩
    show (L.cps.lookup k).isSome = true
    rw [e]
    rfl
  · have hb := o.mkc _ (look_memS hx)
    unfold mkB at hb
    cases ec : L.cls.lookup C with
    | none =>
      have hb : (match L.cls.lookup C with
        | some c => decide (c.x = x) && decide (c.init = f)
        | none => false) = true := hb
      rw [ec] at hb
      cases hb
    | some cl =>
      have hb : (match L.cls.lookup C with
        | some c => decide (c.x = x) && decide (c.init = f)
        | none => false) = true := hb
      rw [ec] at hb
      obtain ⟨h1, h2⟩ := He.ba hb
      have h1 : cl.x = x := of_decide_eq_true h1
      have h2 : cl.init = f := of_decide_eq_true h2
      subst h1 h2
      have hm := look_mem ec
      obtain ⟨c, e, ep, _⟩ := pl_ok (clB hm).1
      have hA : (L.sc w K mg base).fnA cl.init = He.ma K (He.ga K cl.x) "__init__" := by
        show L.fnA K cl.init = _
        rw [fnA_of e, ep]
        rfl
      have hC : (L.sc w K mg base).clsA C = He.ga K cl.x := by
        show L.clsA K C = _
        unfold clsA
        rw [ec]
      refine ⟨?_, ?_, ⟨_, defF_of o kw sy TB e⟩, ?_⟩
      · show (L.cls.lookup C).isSome = true
        rw [ec]
        rfl
      · rw [hA, hC]
        exact He.mkr_ok (sy.fc _ (f_cls hm (clsF0 cl (List.mem_cons_of_mem _ (List.mem_cons_of_mem _ (List.mem_cons_of_mem _ (List.mem_cons_self ..)))))))
      · rw [hC]
        exact He.glo_ok sy.kin G (sy.fc _ (f_cls hm (clsF0 cl (List.mem_cons_self ..))))
  · obtain ⟨cl, ec, hm, hA⟩ := isC hC
    rw [ciE ec] at hp
    have hp := look_mem hp
    obtain ⟨c, e, ep, en⟩ := pl_ok ((clB hm).2.1 _ hp)
    have hf : (L.sc w K mg base).fnA g = Pl.at_ K (.p cl.x (L.fldN f)) := by
      show L.fnA K g = _
      rw [fnA_of e, ep]
    refine ⟨He.ma K (He.ga K cl.x) (L.fldN f), c.ps, ?_, defF_of o kw sy TB e, ?_⟩
    · rw [hA, hf]
      exact prop_ok (sy.fc _ (f_cls hm (clsFp cl hp)))
    · show (c.N.take c.np).length = 1
      have hb := o.cp g c e
      unfold cpB at hb
      simp only [Bool.and_eq_true, decide_eq_true_eq] at hb
      have := hb.2.1
      rw [List.length_take, en 1 rfl]
      have h3 : c.np ≤ c.N.length := hb.2.1
      rw [en 1 rfl] at h3
      omega
  · obtain ⟨cl, ec, hm, hA⟩ := isC hC
    rw [ciE ec] at hf
    have hf : cl.flds.contains f = true := hf
    rw [hA]
    exact He.noat_ok (sy.fc _ (f_cls hm (clsFf cl (by simpa using hf))))
  · obtain ⟨cl, ec, hm, hA⟩ := isC hC
    rw [ciE ec] at he
    have he : cl.eq = some f := he
    obtain ⟨c, e, ep, en⟩ := pl_ok ((clB hm).2.2 _ he)
    have hf : (L.sc w K mg base).fnA f = Pl.at_ K (.m cl.x "__eq__") := by
      show L.fnA K f = _
      rw [fnA_of e, ep]
    refine ⟨?_, c.ps, defF_of o kw sy TB e, ?_⟩
    · rw [hA, hf]
      exact eqm_ok (sy.fc _ (f_cls hm (clsFe cl he)))
    · show (c.N.take c.np).length = 2
      have hb := o.cp f c e
      unfold cpB at hb
      simp only [Bool.and_eq_true, decide_eq_true_eq] at hb
      have h3 : c.np ≤ c.N.length := hb.2.1
      rw [List.length_take, en 2 rfl]
      rw [en 2 rfl] at h3
      omega
  · have e : L.lams.lookup k = some i := e
    have hb := o.lm _ (look_mem e)
    unfold lamB1 at hb
    simp only [Bool.and_eq_true, decide_eq_true_eq] at hb
    exact hb.1
end
end LD
end Fl
set_option Elab.async false
set_option linter.all false
set_option maxRecDepth 100000
set_option maxHeartbeats 4000000
/-! Layer G, part 5: the law's own def, and the end. -/
namespace Fl
open PySem PySem.Spec PyProof.Rows L2 NdefX LamX
/-- the law's promise: the script a list of ints, True comes back -/
def spL (K : PySem.W.Frag) (T : List NTab) (ok : List Int → Prop) : Sp := fun vs H Q _ => ∃ (a : Addr) (ns : List Int), vs = [.ref a] ∧ SqL K H a (ns.map V.int) ∧ TabsN T H ∧ ok ns ∧ ∀ H', Q (.bl true) H'
/-- what has to be computed -/
def LawRuns (P : PI) (codes : Nat → Option Code) (fu g : Nat) (ns : List Int) : Prop := ∃ as, runC P codes fu g [] [.d (.lst (ns.map .int))] = .ok (.d (.bl true)) as
theorem rpL_ints {c : SC} {H : Hp} : ∀ {ns : List Int}, RpL c H (ns.map V.int) (ns.map D.int)
  | [] => .nil
  | n :: ns => .cons (.int n) rpL_ints
theorem argsL {c : SC} {H : Hp} {a : Addr} {ns : List Int} {o : Obj} (h : H a = some (.frz o (.lst (ns.map V.int)))) (t : TabsN c.T H) : ArgsOk c H [.ref a] [.d (.lst (ns.map .int))] := by
  refine ⟨rfl, fun j sv e => ?_, fun j w o e => ?_, fun i j w w' o o' a e => ?_, t⟩
  · cases j with
    | zero =>
      cases e
      exact ⟨_, rfl, .lst ⟨o, h⟩ rpL_ints⟩
    | succ j => simp at e
  · cases j with
    | zero => cases e
    | succ j => simp at e
  · cases i with
    | zero => cases e
    | succ j => simp at e
namespace LD
variable {L : LD} {w : World} {K : PySem.W.Frag} {h : Heap} {mg : Str → Option Value} {base : Heap}
theorem law_same (o : L.Ok) (kw : L.KwOk) (sy : SaysP L.fcs L.fns L.tbs L.dcs w K h) (G0 : h.Ns mainGlobals mg) (TB : ∀ p ∈ L.tbs, TabB base mg (codeA K p) (tabA K (codeA K p))) {g fu : Nat} {c : CP} (e : L.cps.lookup g = some c) (hl : c.lam = false) (hn : c.np = 1)
    {oc : Value} {od : Option Addr} {osl : Array (Option Value)} {doc pm : Value} {an : Option Addr} {cdv ct : Value} (lk : K.lookup (c.d.pl.at_ K) = some ⟨oc, od, .func (PySem.W.fnOf c.d.name c.d.qual c.d.params c.d.body c.d.scope .none .none doc pm an cdv ct), osl⟩) (hcd : PySem.W.codeIn K cdv c.d.qual = true) :
    FnOk L.prog w K mg base (L2.CX L.prog w) (2 * fu + 2) (L.fnA K g) (PySem.W.fnOf c.d.name c.d.qual c.d.params c.d.body c.d.scope .none .none doc pm an cdv ct) c.ps (spL K (L.tcps.map fun p => (tabA K (codeA K p.2.d.pl), fun _ _ => p.2.q ++ "<lambda>")) (LawRuns L.pi L.codes (fu + 1) g)) := by
  have hb := o.cp g c e
  unfold cpB at hb
  simp only [Bool.and_eq_true, decide_eq_true_eq] at hb
  obtain ⟨b1, b2, b3, b4, b5⟩ := hb
  have hA : L.fnA K g = c.d.pl.at_ K := fnA_of e
  have hl1 : c.ps.length = 1 := by
    show (c.N.take c.np).length = 1
    have b2 : c.np ≤ c.N.length := b2
    rw [List.length_take]
    omega
  cases es : L.src c with
  | none => rw [es] at b3; cases b3
  | some S' =>
    have es1 : mapS (trS L.tab c.N none 60 c.d.scope) c.d.body = some S' := by
      have := es
      unfold src at this
      rw [hl] at this
      exact this
    have hlams : LamsInS (L.sc w K mg base) S' := fun p hp => by
      refine look_nd o.nd ?_
      unfold lams
      refine List.mem_flatMap.mpr ⟨_, look_mem e, ?_⟩
      unfold lamsOf
      rw [es]
      exact hp
    have ecode : L.codes g = some ⟨1, 0, c.N.length, S'⟩ := by
      unfold codes
      rw [e]
      show (match L.src c with
        | some s => some (⟨c.np, 0, c.N.length, s⟩ : Code)
        | none => none) = _
      rw [es, hn]
    obtain ⟨GF0, V0⟩ := all_ok (stf o kw sy G0 TB) fu
    have Sc := fsc_by b4
    refine fn_of (by rw [hA]; exact lk) hcd Sc (fun vs H Q E h => ?_) fun A outer s H vs Q E hr h => ?_
    · obtain ⟨a, ns, rfl, _⟩ := h
      rw [hl1]; rfl
    · obtain ⟨a, ns, rfl, hs, ht, ⟨as, hrun⟩, hq⟩ := h
      let X := cxOf (L2.CX L.prog w) L.prog w K mg base c.N c.d.qual c.d.scope (L.fnA K g) cdv A outer s H E
      have xc : XC (L.sc w K mg base) c.N c.d.scope (2 * fu + 1) X := ⟨rfl, rfl, rfl, rfl, rfl, rfl, Sc.nd, rfl, rfl, hr, passes_of rfl⟩
      have hx : PassW X (fun cls d _ H => E cls d H) := fun σ => passAt (takes_of rfl rfl rfl rfl) σ
      have Kx : Ctx (L.sc w K mg base) c.N c.d.scope (2 * fu + 1) (2 * fu) X (fun cls d _ H => E cls d H) := ⟨xc, Nat.le_refl _, hx⟩
      have body : ∀ b : Bs, PSs X c.d.body (tO (L.sc w K mg base) b (fun cls d _ H => E cls d H) (denS L.pi (runC L.pi L.codes fu) S')) := fun b =>
        mapS_ok (b := b) (W := fun cls d _ H => E cls d H) (P := L.pi) (call := runC L.pi L.codes fu) (fun st x h hl => trS_ok GF0 (fun K KL => lamF GF0 V0 K KL) Kx (fun _ => rfl) LamC.none 60 h hl) es1 hlams
      have fin : ∀ (H2 : Hp) (o2 : Obj), H2 a = some (.frz o2 (.lst (ns.map V.int))) → TabsN (L.sc w K mg base).T H2 →
          tO (L.sc w K mg base) (bsOf H2 [.ref a] [.d (.lst (ns.map .int))]) (fun cls d _ H => E cls d H) (denS L.pi (runC L.pi L.codes fu) S') { nx := fun _ H' => Q .non H', rt := Q } (L2.start c.N [.ref a]) H2 := fun H2 o2 h2 t2 => by
        refine ⟨entry ⟨1, 0, c.N.length, S'⟩ [] [.d (.lst (ns.map .int))], entry_ok (caps := []) (ws := []) (argsL h2 t2) .nil (start_eq (np := 1) rfl) rfl, leave_post (np := 1) rfl ?_⟩
        have er : runC L.pi L.codes (fu + 1) g [] [.d (.lst (ns.map .int))] = leave 1 (denS L.pi (runC L.pi L.codes fu) S' (entry ⟨1, 0, c.N.length, S'⟩ [] [.d (.lst (ns.map .int))])) := by
          show (match L.codes g with
            | none => CO.bad
            | some c => if [SV.d (.lst (ns.map .int))].length = c.np ∧ ([] : List D).length = c.nc then leave c.np (denS L.pi (runC L.pi L.codes fu) c.body (entry c [] [.d (.lst (ns.map .int))])) else .bad) = _
          rw [ecode]
          exact if_pos ⟨rfl, rfl⟩
        rw [← er, hrun]
        intro x H' _ hx
        have hx : Rp (L.sc w K mg base) H' x (.bl true) := hx
        cases hx
        exact hq H'
      refine ⟨fun D σ H => ∀ pins s, Inv X pins σ H s → ∃ H2 b, Inv X pins σ H2 s ∧ tO (L.sc w K mg base) b (fun cls d _ H => E cls d H) (denS L.pi (runC L.pi L.codes fu) S') D σ H2, ⟨fun pins s σ H D I q => ?_⟩, fun pins s I => ?_⟩
      · obtain ⟨H2, b, I2, q2⟩ := q pins s I
        exact (body b).run pins s σ H2 D I2 q2
      · rcases hs with (hs | ⟨o2, hs⟩) | ⟨o2, its, n, e1, e2, e3, e4, _⟩
        · obtain ⟨od2, I2⟩ := I.lock hs trivial
          refine ⟨_, _, I2, fin _ od2 upd_same fun p hp => tabN_keep (ht p hp) fun b o' eb q => ?_⟩
          rw [upd_ne fun z => ?_]
          · exact eb
          · rw [z, hs] at eb
            cases eb
            rcases q with ⟨ps, q⟩ | q
            · cases q
            · cases q
        · exact ⟨_, _, I, fin _ o2 hs ht⟩
        · exfalso
          have := sy.not a o2 e1
          obtain ⟨oc2, od2, dt2, sl2⟩ := o2
          have e2 : oc2 = .type "list" := e2
          have e4 : dt2 = .seq its n := e4
          subst e2 e4
          cases this
/-- THE END: a law whose run gives True -/
theorem walk {l : PySem.W.OpenLaw} {q : Program} {loose : List Str} {XP : (Str → Option Value) → Heap → Prop} {d : DefRec} {nf g fu : Nat} {c : CP} {x : Str} (hp : l.prog = L.prog) (hm : l.most = some 63) (hdf : d.params.defaults = []) (o : L.Ok) (kw : L.KwOk)
    (e : L.cps.lookup g = some c) (hl : c.lam = false) (hn : c.np = 1) (hx : c.ps = [x]) (hpl : c.d.pl = .g d.name) (hdef : (d.name, g) ∈ L.tab.defs) (hr : Room (2 * fu + 2) callerA) (run : ∀ ns : List Int, ns.length ≤ 63 → LawRuns L.pi L.codes (fu + 1) g ns) :
    PySem.W.WalkO q loose XP (hookP nf L.fcs L.fns L.tbs L.dcs).says l.row.toRowW d [] (fun f vs => PySem.call f vs) := by
  refine walk_ofTsE (n := 63) (k := 2 * fu + 2) (CX := fun w => L2.CX L.prog w) (x := x) hm (by rw [sizeLine_eq]; decide) hdf hr (fun w mg fa h Y G hfa => ?_) fun w H s e s' hh => ?_
  · obtain ⟨K, sy⟩ := Y
    refine ⟨K, sy.kin, ?_⟩
    have TBn : ∀ p ∈ L.tbs, K.lookup (tabA K (codeA K p)) = none := fun p hp => by
      cases q : K.lookup (tabA K (codeA K p)) with
      | none => rfl
      | some ob =>
        have h1 := sy.kin _ _ q
        have h2 := sy.not _ _ q
        rw [(sy.tb p hp).2] at h1
        cases h1
        cases h2
    have hga : fa = L.fnA K g := by
      have h1 := He.glo_ok sy.kin G (sy.fc _ (f_def hdef))
      rw [hfa] at h1
      have h1 := Option.some.inj h1
      cases h1
      rw [fnA_of e, hpl]
      rfl
    subst hga
    -- the function object does not hang on the base
    obtain ⟨c1, c2⟩ := sy.fn c.d (List.mem_map.mpr ⟨_, look_mem e, rfl⟩)
    obtain ⟨kp, isf, oc, od, osl, doc, pm, an, cdv, ct, lk, hcd⟩ := DefP.look c2 c1
    have hb := o.cp g c e
    unfold cpB at hb
    simp only [Bool.and_eq_true, decide_eq_true_eq] at hb
    obtain ⟨b1, b2, b3, b4, b5⟩ := hb
    refine ⟨PySem.W.fnOf c.d.name c.d.qual c.d.params c.d.body c.d.scope .none .none doc pm an cdv ct, L.tbs.map fun p => (codeA K p, tabA K (codeA K p)), spL K (L.tcps.map fun p => (tabA K (codeA K p.2.d.pl), fun _ _ => p.2.q ++ "<lambda>")) (LawRuns L.pi L.codes (fu + 1) g), fun p hp => ?_, fun p hp => ?_, fun p hp => ?_, fun s u => ?_, fun H a ns hlen _ hH hS => ?_, fun base kb nb tb => ?_⟩
    · obtain ⟨q, hq, rfl⟩ := List.mem_map.mp hp
      exact (sy.tb q hq).2
    · obtain ⟨q, hq, rfl⟩ := List.mem_map.mp hp
      exact TBn q hq
    · obtain ⟨q, hq, rfl⟩ := List.mem_map.mp hp
      exact (sy.tb q hq).1
    · have := bind_plain (fd := PySem.W.fnOf c.d.name c.d.qual c.d.params c.d.body c.d.scope .none .none doc pm an cdv ct) b5 rfl (us := [u]) (by rw [hx]; rfl)
      rw [hx] at this
      exact .of_eq this
    · refine ⟨a, ns, rfl, hS, fun p hp => ?_, run ns hlen, fun _ => rfl⟩
      obtain ⟨q, hq, rfl⟩ := List.mem_map.mp hp
      refine TabN.nil (hH (codeA K q.2.d.pl, tabA K (codeA K q.2.d.pl)) (List.mem_map.mpr ⟨q.2.d.pl, List.mem_map.mpr ⟨q, hq, rfl⟩, rfl⟩))
    · have TB : ∀ p ∈ L.tbs, TabB base mg (codeA K p) (tabA K (codeA K p)) := fun p hp => tb (codeA K p, tabA K (codeA K p)) (List.mem_map.mpr ⟨p, hp, rfl⟩)
      rw [hp]
      have := law_same (fu := fu) o kw sy G TB e hl hn lk hcd
      rw [hx] at this
      exact this
  · obtain ⟨_, _, _, _, _, _, _, _, _, _, _, _, z⟩ := hh
    exact z
end LD
end Fl
set_option Elab.async false
set_option linter.all false
set_option maxRecDepth 100000
set_option maxHeartbeats 0
namespace Fl
namespace k83
open PySem PySem.Spec PyProof.Rows L2
abbrev pw : Program := PySem.Challenge.pw_streetways_k83_whole_texts_of_towns
def top (i : Nat) : Stmt := pw.main.body.getD i (.Pass ⟨0, 0, 0, 0⟩)
def meth (i j : Nat) : Stmt := match top i with
  | .ClassDef _ _ _ b _ _ _ _ _ _ _ => b.getD j (.Pass ⟨0, 0, 0, 0⟩)
  | s => s
def tab : Tab where
  consts := [("LETTERS", .str "abcdefghijklmnopqrstuvwxyz"), ("MOST_LETTERS", .int 8), ("WORDS", .tk [.str "all", .str "bridge", .str "close", .str "closed", .str "day", .str "ear", .str "in", .str "no", .str "none", .str "of", .str "open", .str "out", .str "place", .str "places", .str "plan", .str "put", .str "quit", .str "ring", .str "street", .str "streets", .str "strike", .str "town", .str "turn", .str "undo", .str "wall", .str "way", .str "yes"]), ("MOST_PLACES", .int 8), ("MOST_STREETS", .int 14), ("AHEAD", .int 1), ("BACK", .int (-1)), ("BOTH", .int 0), ("PLACE", .str "place"), ("STREET", .str "street"), ("WAY", .str "way"), ("SIZES", .ck [("place", .int 2), ("street", .int 3), ("way", .int 3)])]
  defs := [(("is_whole" : Str), 6), (("is_between" : Str), 7), (("is_one_of" : Str), 8), (("is_word" : Str), 9), (("is_name" : Str), 10), (("is_tuple_of" : Str), 11), (("is_pair" : Str), 12), (("wrong_in" : Str), 13), (("wrong_in_all" : Str), 83), (("are_below" : Str), 14), (("wrong_in_places" : Str), 15), (("is_street" : Str), 16), (("wrong_in_streets" : Str), 17), (("is_way" : Str), 117), (("wrong_in_plan" : Str), 118), (("check_town" : Str), 34), (("town_of" : Str), 660), (("check_plan" : Str), 128), (("told_row" : Str), 661), (("may_stand" : Str), 662), (("wrong_in_rows" : Str), 663), (("street_told" : Str), 664), (("number_told" : Str), 665), (("parts_told" : Str), 666), (("row_by" : Str), 667), (("rows_by" : Str), 668), (("town_rows" : Str), 669), (("read_town" : Str), 670), (("_law_bowl" : Str), 197), (("_law_draw" : Str), 198), (("_law_of" : Str), 199), (("_law_same" : Str), 200), (("_law_names" : Str), 202), (("_law_town" : Str), 203), (("_law_made" : Str), 204), (("_law_closed" : Str), 208), (("_law_plan" : Str), 219), (("_law_text" : Str), 671), (("_law_right" : Str), 672), (("law" : Str), 673)]
  clss := [("Town", 6, 29)]
  flds := ["given", "index", "places", "given_parts", "streets", "parts", "standing", "town", "plan", "counts", "all_of_it", "fixed", "new", "far", "stood", "outer", "book_tried", "begun", "led", "book"]
  blts := ["len", "abs", "int", "min", "max", "all", "sorted", "list", "tuple", "str", "divmod", "isinstance", "range", "enumerate", "zip", "bool"]
  kwT := [(670, 0, ["rows"], [0]), (669, 0, ["plan", "town"], [1, 0])]
def mk (s : Stmt) (pl : Pl) (nm qual : Str) (N : List Str) (np : Nat) (lam : Bool) : CP := ⟨⟨pl, nm, qual, defArgs s, defBody s, defScope s⟩, N, np, lam⟩
def cp6 : CP := mk (top 11) (.g "is_whole") "is_whole" "is_whole" ["value"] 1 false
def cp7 : CP := mk (top 12) (.g "is_between") "is_between" "is_between" ["value", "least", "most"] 3 false
def cp8 : CP := mk (top 13) (.g "is_one_of") "is_one_of" "is_one_of" ["value", "words"] 2 false
def cp9 : CP := mk (top 14) (.g "is_word") "is_word" "is_word" ["value", "sign"] 1 false
def cp10 : CP := mk (top 15) (.g "is_name") "is_name" "is_name" ["value"] 1 false
def cp11 : CP := mk (top 16) (.g "is_tuple_of") "is_tuple_of" "is_tuple_of" ["value", "many"] 2 false
def cp12 : CP := mk (top 17) (.g "is_pair") "is_pair" "is_pair" ["value"] 1 false
def cp13 : CP := mk (top 18) (.g "wrong_in") "wrong_in" "wrong_in" ["value", "least", "most", "is_right", "index", "each"] 4 false
def cp83 : CP := mk (top 19) (.g "wrong_in_all") "wrong_in_all" "wrong_in_all" ["value", "many", "is_right"] 3 true
def cp14 : CP := mk (top 20) (.g "are_below") "are_below" "are_below" ["ahead", "value"] 2 false
def cp15 : CP := mk (top 24) (.g "wrong_in_places") "wrong_in_places" "wrong_in_places" ["value"] 1 true
def cp16 : CP := mk (top 25) (.g "is_street") "is_street" "is_street" ["places", "value"] 2 false
def cp17 : CP := mk (top 26) (.g "wrong_in_streets") "wrong_in_streets" "wrong_in_streets" ["places", "value"] 2 true
def cp117 : CP := mk (top 31) (.g "is_way") "is_way" "is_way" ["value"] 1 false
def cp118 : CP := mk (top 32) (.g "wrong_in_plan") "wrong_in_plan" "wrong_in_plan" ["town", "value"] 2 false
def cp29 : CP := mk (meth 34 0) (.m "Town" "__init__") "__init__" "Town.__init__" ["self", "places", "streets", "index"] 3 false
def cp30 : CP := mk (meth 34 1) (.p "Town" "places") "places" "Town.places" ["self"] 1 false
def cp31 : CP := mk (meth 34 2) (.p "Town" "streets") "streets" "Town.streets" ["self"] 1 false
def cp32 : CP := mk (meth 34 3) (.p "Town" "parts") "parts" "Town.parts" ["self"] 1 false
def cp33 : CP := mk (meth 34 4) (.m "Town" "__eq__") "__eq__" "Town.__eq__" ["self", "other"] 2 false
def cp34 : CP := mk (top 35) (.g "check_town") "check_town" "check_town" ["town"] 1 false
def cp660 : CP := mk (top 36) (.g "town_of") "town_of" "town_of" ["parts", "places", "streets"] 1 false
def cp128 : CP := mk (top 38) (.g "check_plan") "check_plan" "check_plan" ["town", "plan", "index"] 2 false
def cp661 : CP := mk (top 44) (.g "told_row") "told_row" "told_row" ["value", "words", "word"] 1 false
def cp662 : CP := mk (top 45) (.g "may_stand") "may_stand" "may_stand" ["ahead", "words", "row"] 2 false
def cp663 : CP := mk (top 46) (.g "wrong_in_rows") "wrong_in_rows" "wrong_in_rows" ["value", "told", "row", "index", "words"] 1 false
def cp664 : CP := mk (top 47) (.g "street_told") "street_told" "street_told" ["words"] 1 false
def cp665 : CP := mk (top 48) (.g "number_told") "number_told" "number_told" ["words"] 1 false
def cp666 : CP := mk (top 49) (.g "parts_told") "parts_told" "parts_told" ["rows", "told", "row", "places", "words", "others"] 1 false
def cp667 : CP := mk (top 50) (.g "row_by") "row_by" "row_by" ["street", "number"] 2 false
def cp668 : CP := mk (top 51) (.g "rows_by") "rows_by" "rows_by" ["town", "plan", "found", "place", "street", "number"] 2 false
def cp669 : CP := mk (top 53) (.g "town_rows") "town_rows" "town_rows" ["town", "plan"] 2 false
def cp670 : CP := mk (top 54) (.g "read_town") "read_town" "read_town" ["rows", "index", "parts", "plan"] 1 false
def cp197 : CP := mk (top 56) (.g "_law_bowl") "_law_bowl" "_law_bowl" ["script", "lap", "stir", "cell", "own"] 2 false
def cp198 : CP := mk (top 57) (.g "_law_draw") "_law_draw" "_law_draw" ["bowl", "many", "figure", "turn"] 2 false
def cp199 : CP := mk (top 58) (.g "_law_of") "_law_of" "_law_of" ["bowl", "some"] 2 false
def cp200 : CP := mk (top 59) (.g "_law_same") "_law_same" "_law_same" ["told", "due", "k"] 2 false
def cp202 : CP := mk (top 60) (.g "_law_names") "_law_names" "_law_names" ["bowl", "many", "words", "barred", "found", "turn", "name", "k", "some", "each", "more"] 2 false
def cp203 : CP := mk (top 61) (.g "_law_town") "_law_town" "_law_town" ["bowl", "most", "streets", "places", "pairs", "found", "k", "other", "two", "turn", "rows"] 3 false
def cp204 : CP := mk (top 62) (.g "_law_made") "_law_made" "_law_made" ["town"] 1 false
def cp208 : CP := mk (top 63) (.g "_law_closed") "_law_closed" "_law_closed" ["town", "indexes", "k"] 2 false
def cp219 : CP := mk (top 64) (.g "_law_plan") "_law_plan" "_law_plan" ["bowl", "town", "some", "street"] 2 false
def cp671 : CP := mk (top 65) (.g "_law_text") "_law_text" "_law_text" ["town", "plan", "rows", "place", "k", "one", "two"] 2 false
def cp672 : CP := mk (top 66) (.g "_law_right") "_law_right" "_law_right" ["bowl", "lap", "town", "made", "plan", "other", "rows", "one", "two", "told"] 1 false
def cp673 : CP := mk (top 67) (.g "law") "law" "law" ["script", "lap"] 1 false
def cps0 : List (Nat × CP) := [(6, cp6), (7, cp7), (8, cp8), (9, cp9), (10, cp10), (11, cp11), (12, cp12), (13, cp13), (83, cp83), (14, cp14), (15, cp15), (16, cp16), (17, cp17), (117, cp117), (118, cp118), (29, cp29), (30, cp30), (31, cp31), (32, cp32), (33, cp33), (34, cp34), (660, cp660), (128, cp128), (661, cp661), (662, cp662), (663, cp663), (664, cp664), (665, cp665), (666, cp666), (667, cp667)]
def cps1 : List (Nat × CP) := [(668, cp668), (669, cp669), (670, cp670), (197, cp197), (198, cp198), (199, cp199), (200, cp200), (202, cp202), (203, cp203), (204, cp204), (208, cp208), (219, cp219), (671, cp671), (672, cp672), (673, cp673)]
def cps : List (Nat × CP) := cps0 ++ cps1
def cls : List (Nat × ClP) := [(6, ⟨"Town", 29, [(2, 30), (4, 31), (5, 32)], some 33, [3]⟩)]
def dat : LD := ⟨pw, tab, cps, cls, [], [(29, 0), (198, 0), (199, 0), (202, 0), (203, 0), (219, 0), (672, 0)], 400⟩
def ls0 : List Str := ["__name__", "StreetError", "NotATown", "InvalidPlaces", "InvalidStreets", "InvalidPlan", "InvalidText", "LETTERS", "MOST_LETTERS", "WORDS", "is_whole", "is_between", "is_one_of", "is_word", "is_name", "is_tuple_of", "is_pair", "wrong_in", "wrong_in_all", "are_below", "MOST_PLACES", "MOST_STREETS", "wrong_in_places", "is_street", "wrong_in_streets", "AHEAD", "BACK", "BOTH", "is_way", "wrong_in_plan"]
def ls1 : List Str := ["Town", "check_town", "town_of", "check_plan", "PLACE", "STREET", "WAY", "SIZES", "told_row", "may_stand", "wrong_in_rows", "street_told", "number_told", "parts_told", "row_by", "rows_by", "town_rows", "read_town", "_law_bowl", "_law_draw", "_law_of", "_law_same", "_law_names", "_law_town", "_law_made", "_law_closed", "_law_plan", "_law_text", "_law_right"]
def loose : List Str := ls0 ++ ls1
theorem okB : dat.okB = true := by decide +kernel
theorem kwOk : dat.KwOk := by
  intro g n ks p hm c hc doc pm cdv ct an us ws h1 h2
  have hm : (g, n, ks, p) ∈ [((670 : Nat), (0 : Nat), (["rows"] : List Str), ([0] : List Nat)), ((669 : Nat), (0 : Nat), (["plan", "town"] : List Str), ([1, 0] : List Nat))] := hm
  rcases List.mem_cons.mp hm with e | hm
  · cases e
    have hc : some cp670 = some c := hc
    cases hc
    match us, ws, h1, h2 with
    | [], [b0], _, _ => exact ⟨_, rfl, rfl⟩
  rcases List.mem_cons.mp hm with e | hm
  · cases e
    have hc : some cp669 = some c := hc
    cases hc
    match us, ws, h1, h2 with
    | [], [b0, b1], _, _ => exact ⟨_, rfl, rfl⟩
  cases hm
abbrev Rw : PySem.W.OpenRow := PySem.W.OpenLaw.row PySem.Challenge.rw_streetways_k83_whole_texts_of_towns
abbrev hk : PySem.W.Hook := hookP 5 dat.fcs dat.fns dat.tbs dat.dcs
def ob (s : PySem.W.SharedT) : AlP := obsP dat.fcs dat.fns dat.tbs dat.dcs (HandSHeadRun.getT s) (frT (HandSHeadRun.getT s) (He.asD (HandSHeadRun.getT s) 5))
theorem ob_eq (s : PySem.W.SharedT) : ob s = hk.obs s.abs := by
  have e : HandSHeadRun.getT s = s.abs.heap.get? := funext (HandSHeadRun.getT_eq s)
  unfold ob
  rw [e] <;> rfl
end k83
end Fl
set_option Elab.async false
set_option linter.all false
set_option maxRecDepth 100000
set_option maxHeartbeats 0
/-! Layer H: the terms of the shared defs. -/
namespace Fl
open PySem PySem.Spec PyProof.Rows L2
def K_LETTERS : D := .str "abcdefghijklmnopqrstuvwxyz"
def K_MOST_LETTERS : D := .int 8
def K_WORDS : D := .tk [.str "all", .str "bridge", .str "close", .str "closed", .str "day", .str "ear", .str "in", .str "no", .str "none", .str "of", .str "open", .str "out", .str "place", .str "places", .str "plan", .str "put", .str "quit", .str "ring", .str "street", .str "streets", .str "strike", .str "town", .str "turn", .str "undo", .str "wall", .str "way", .str "yes"]
def K_MOST_PLACES : D := .int 8
def K_MOST_STREETS : D := .int 14
def K_AHEAD : D := .int 1
def K_BACK : D := .int (-1)
/-- is_whole -/
def S6 : S := .cons (.ret (.and (.blt (.isi .int) (.cons (.v 0) .nil)) (.not (.blt (.isi .bool) (.cons (.v 0) .nil))))) .nil
/-- is_between -/
def S7 : S := .cons (.ret (.and (.call 6 (.cons (.v 0) .nil)) (.cmp2 .LtE .LtE (.v 1) (.v 0) (.v 2)))) .nil
/-- is_one_of -/
def S8 : S := .cons (.ret (.and (.blt (.isi .str) (.cons (.v 0) .nil)) (.cmp .In (.v 0) (.v 1)))) .nil
/-- is_word -/
def S9 : S := .cons (.ret (.and (.blt (.isi .str) (.cons (.v 0) .nil)) (.and (.cmp .NotEq (.v 0) (.k (.str ""))) (.blt .all (.cons (.comp (.cmp .In (.v 1) (.k K_LETTERS)) [1] false .seq (.cons (.v 0) .nil) (.nil) [1]) .nil))))) .nil
/-- is_name -/
def S10 : S := .cons (.ret (.and (.call 9 (.cons (.v 0) .nil)) (.and (.cmp .LtE (.blt .len (.cons (.v 0) .nil)) (.k K_MOST_LETTERS)) (.cmp .NotIn (.v 0) (.k K_WORDS))))) .nil
/-- is_tuple_of -/
def S11 : S := .cons (.ret (.and (.blt (.isi .tuple) (.cons (.v 0) .nil)) (.cmp .Eq (.blt .len (.cons (.v 0) .nil)) (.v 1)))) .nil
/-- is_pair -/
def S12 : S := .cons (.ret (.call 11 (.cons (.v 0) (.cons (.k (.int 2)) .nil)))) .nil
/-- wrong_in -/
def S13 : S := .cons (.ite (.or (.not (.blt (.isi .tuple) (.cons (.v 0) .nil))) (.cmp .Lt (.blt .len (.cons (.v 0) .nil)) (.v 1))) (.cons (.ret (.lst (.cons (.k .non) .nil))) .nil) (.nil)) (.cons (.for_ [4, 5] true .enum (.cons (.v 0) .nil) (.cons (.ite (.or (.cmp .Eq (.v 4) (.v 2)) (.not (.app 3 (.cons (.sl (.v 0) (.nil) (.v 4)) (.cons (.v 5) .nil))))) (.cons (.ret (.lst (.cons (.v 4) .nil))) .nil) (.nil)) .nil)) (.cons (.ret (.lst (.nil))) .nil))
/-- a lambda of wrong_in_all -/
def S83_0 : S := .ret (.app 2 (.cons (.v 1) .nil))
/-- wrong_in_all -/
def S83 (k0 : Nat) (L0 : LI) : S := .cons (.ret (.ite (.call 11 (.cons (.v 0) (.cons (.v 1) .nil))) (.callL 13 (.cons (.v 0) (.cons (.v 1) (.cons (.v 1) .nil))) k0 [2] L0) (.lst (.cons (.k .non) .nil)))) .nil
/-- are_below -/
def S14 : S := .cons (.ret (.or (.cmp .Eq (.v 0) (.tup (.nil))) (.cmp .Lt (.ix (.v 0) (.un .USub (.k (.int 1)))) (.v 1)))) .nil
/-- a lambda of wrong_in_places -/
def S15_0 : S := .ret (.and (.call 10 (.cons (.v 1) .nil)) (.call 14 (.cons (.v 0) (.cons (.v 1) .nil))))
/-- wrong_in_places -/
def S15 (k0 : Nat) (L0 : LI) : S := .cons (.ret (.callL 13 (.cons (.v 0) (.cons (.k (.int 1)) (.cons (.k K_MOST_PLACES) .nil))) k0 [] L0)) .nil
/-- is_street -/
def S16 : S := .cons (.ite (.or (.not (.call 12 (.cons (.v 1) .nil))) (.or (.not (.call 8 (.cons (.ix (.v 1) (.k (.int 0))) (.cons (.v 0) .nil)))) (.not (.call 8 (.cons (.ix (.v 1) (.k (.int 1))) (.cons (.v 0) .nil)))))) (.cons (.ret (.k (.bl false))) .nil) (.nil)) (.cons (.ret (.cmp .Lt (.ix (.v 1) (.k (.int 0))) (.ix (.v 1) (.k (.int 1))))) .nil)
/-- a lambda of wrong_in_streets -/
def S17_0 : S := .ret (.and (.call 16 (.cons (.v 2) (.cons (.v 1) .nil))) (.call 14 (.cons (.v 0) (.cons (.v 1) .nil))))
/-- wrong_in_streets -/
def S17 (k0 : Nat) (L0 : LI) : S := .cons (.ret (.callL 13 (.cons (.v 1) (.cons (.k (.int 0)) (.cons (.k K_MOST_STREETS) .nil))) k0 [0] L0)) .nil
/-- is_way -/
def S117 : S := .cons (.ret (.call 7 (.cons (.v 0) (.cons (.k K_BACK) (.cons (.k K_AHEAD) .nil))))) .nil
/-- wrong_in_plan -/
def S118 : S := .cons (.ret (.call 83 (.cons (.v 1) (.cons (.blt .len (.cons (.att (.v 0) 4) .nil)) (.cons (.k (.fn 117 [])) .nil))))) .nil
/-- Town.__init__ -/
def S29 : S := .cons (.for_ [3] false .seq (.cons (.call 15 (.cons (.v 1) .nil)) .nil) (.cons (.never) .nil)) (.cons (.for_ [3] false .seq (.cons (.call 17 (.cons (.v 1) (.cons (.v 2) .nil))) .nil) (.cons (.never) .nil)) (.cons (.fset 0 3 (.tup (.cons (.v 1) (.cons (.v 2) .nil)))) .nil))
/-- Town.places -/
def S30 : S := .cons (.ret (.ix (.att (.v 0) 3) (.k (.int 0)))) .nil
/-- Town.streets -/
def S31 : S := .cons (.ret (.ix (.att (.v 0) 3) (.k (.int 1)))) .nil
/-- Town.parts -/
def S32 : S := .cons (.ret (.att (.v 0) 3)) .nil
/-- Town.__eq__ -/
def S33 : S := .cons (.ret (.and (.blt (.isi (.cls 6)) (.cons (.v 1) .nil)) (.cmp .Eq (.att (.v 0) 5) (.att (.v 1) 5)))) .nil
/-- check_town -/
def S34 : S := .cons (.ite (.not (.blt (.isi (.cls 6)) (.cons (.v 0) .nil))) (.cons (.never) .nil) (.nil)) .nil
/-- check_plan -/
def S128 : S := .cons (.exp (.call 34 (.cons (.v 0) .nil))) (.cons (.for_ [2] false .seq (.cons (.call 118 (.cons (.v 0) (.cons (.v 1) .nil))) .nil) (.cons (.never) .nil)) .nil)
/-- _law_bowl -/
def S197 : S := .cons (.asg 2 (.bin .Add (.k (.int 771041)) (.bin .Mult (.k (.int 8819)) (.v 1)))) (.cons (.for_ [3] false .seq (.cons (.sl (.v 0) (.nil) (.k (.int 9))) .nil) (.cons (.asg 2 (.bin .Mod (.blt .int (.cons (.bin .Add (.bin .Add (.bin .Mult (.v 2) (.k (.int 48611))) (.bin .Mult (.bin .Mod (.blt .int (.cons (.v 3) .nil)) (.k (.int 2147483053))) (.k (.int 19)))) (.k (.int 41))) .nil)) (.k (.int 2147483563)))) .nil)) (.cons (.asg 4 (.ite (.cmp .Lt (.v 1) (.blt .len (.cons (.v 0) .nil))) (.blt .int (.cons (.ix (.v 0) (.v 1)) .nil)) (.k (.int 0)))) (.cons (.asg 2 (.bin .Mod (.blt .int (.cons (.bin .Add (.bin .Add (.bin .Mult (.v 2) (.k (.int 53))) (.bin .Mult (.bin .Mod (.v 4) (.k (.int 2147483053))) (.k (.int 27011)))) (.k (.int 11))) .nil)) (.k (.int 2147483563)))) (.cons (.ret (.lst (.cons (.ite (.or (.cmp .Lt (.v 4) (.k (.int 0))) (.cmp .GtE (.v 4) (.bin .Pow (.k (.int 10)) (.k (.int 16))))) (.blt .abs (.cons (.v 4) .nil)) (.k (.int 0))) (.cons (.v 2) (.cons (.k (.int 0)) .nil))))) .nil))))
/-- _law_draw -/
def S198 : S := .cons (.ite (.cmp .Gt (.ix (.v 0) (.k (.int 0))) (.k (.int 0))) (.cons (.asgT [.x 0 (.k (.int 0)), .s 2] (.blt .divmod (.cons (.ix (.v 0) (.k (.int 0))) (.cons (.v 1) .nil)))) (.cons (.ret (.v 2)) .nil)) (.nil)) (.cons (.put 0 (.k (.int 2)) (.bin .Add (.ix (.v 0) (.k (.int 2))) (.k (.int 1)))) (.cons (.asg 3 (.bin .Mod (.blt .int (.cons (.bin .Add (.bin .Mult (.ix (.v 0) (.k (.int 1))) (.k (.int 39373))) (.bin .Mult (.k (.int 17011)) (.ix (.v 0) (.k (.int 2))))) .nil)) (.k (.int 2147483563)))) (.cons (.put 0 (.k (.int 1)) (.bin .Mod (.blt .int (.cons (.bin .Add (.bin .Mult (.v 3) (.bin .Add (.bin .Mod (.blt .int (.cons (.v 3) .nil)) (.k (.int 4093))) (.k (.int 30011)))) (.bin .Mult (.k (.int 7)) (.ix (.v 0) (.k (.int 2))))) .nil)) (.k (.int 2147483563)))) (.cons (.ret (.bin .Mod (.blt .int (.cons (.bin .FloorDiv (.ix (.v 0) (.k (.int 1))) (.k (.int 733))) .nil)) (.v 1))) .nil))))
/-- _law_of -/
def S199 : S := .cons (.ret (.ix (.v 1) (.call 198 (.cons (.v 0) (.cons (.blt .len (.cons (.v 1) .nil)) .nil))))) .nil
/-- _law_same -/
def S200 : S := .cons (.ite (.blt (.isi .tuple) (.cons (.v 1) .nil)) (.cons (.ite (.or (.not (.blt (.isi .tuple) (.cons (.v 0) .nil))) (.cmp .NotEq (.blt .len (.cons (.v 0) .nil)) (.blt .len (.cons (.v 1) .nil)))) (.cons (.ret (.k (.bl false))) .nil) (.nil)) (.cons (.ret (.blt .all (.cons (.comp (.call 200 (.cons (.ix (.v 0) (.v 2)) (.cons (.ix (.v 1) (.v 2)) .nil))) [2] false .range (.cons (.blt .len (.cons (.v 1) .nil)) .nil) (.nil) [2]) .nil))) .nil)) (.nil)) (.cons (.ite (.cmp .Is (.v 1) (.k .non)) (.cons (.ret (.cmp .Is (.v 0) (.k .non))) .nil) (.nil)) (.cons (.ite (.blt (.isi .bool) (.cons (.v 1) .nil)) (.cons (.ret (.and (.blt (.isi .bool) (.cons (.v 0) .nil)) (.cmp .Eq (.v 0) (.v 1)))) .nil) (.nil)) (.cons (.ite (.blt (.isi .int) (.cons (.v 1) .nil)) (.cons (.ret (.and (.blt (.isi .int) (.cons (.v 0) .nil)) (.and (.not (.blt (.isi .bool) (.cons (.v 0) .nil))) (.cmp .Eq (.v 0) (.v 1))))) .nil) (.nil)) (.cons (.ite (.blt (.isi .str) (.cons (.v 1) .nil)) (.cons (.ret (.and (.blt (.isi .str) (.cons (.v 0) .nil)) (.cmp .Eq (.v 0) (.v 1)))) .nil) (.nil)) (.cons (.ret (.cmp .Eq (.v 0) (.v 1))) .nil)))))
/-- _law_names -/
def S202 : S := .cons (.asg 2 (.k (.str "all bridge close closed day ear in no none of open out place places plan put quit ring street streets strike town turn undo wall way yes"))) (.cons (.par [3, 4] (.cons (.mth .split (.v 2) (.cons (.k (.str " ")) .nil)) (.cons (.lst (.nil)) .nil))) (.cons (.for_ [5] false .range (.cons (.v 1) .nil) (.cons (.asg 6 (.k (.str ""))) (.cons (.for_ [7] false .range (.cons (.call 199 (.cons (.v 0) (.cons (.tup (.cons (.k (.int 1)) (.cons (.k (.int 1)) (.cons (.k (.int 2)) (.cons (.k (.int 3)) (.cons (.k (.int 5)) (.cons (.k (.int 8)) .nil))))))) .nil))) .nil) (.cons (.asg 6 (.bin .Add (.v 6) (.ix (.k (.str "abcdefghijklmnopqrstuvwxyz")) (.call 198 (.cons (.v 0) (.cons (.k (.int 26)) .nil)))))) .nil)) (.cons (.asg 8 (.comp (.v 9) [9] false .seq (.cons (.bin .Add (.lst (.cons (.v 6) .nil)) (.comp (.bin .Add (.sl (.v 6) (.nil) (.k (.int 7))) (.v 10)) [10] false .seq (.cons (.k (.str "abcdefghijklmnopqrstuvwxyz")) .nil) (.nil) [10])) .nil) (.cmp .NotIn (.v 9) (.bin .Add (.v 3) (.v 4))) [9])) (.cons (.exp (.mthM .append 4 (.cons (.ix (.v 8) (.k (.int 0))) .nil))) .nil))))) (.cons (.ret (.blt .tuple (.cons (.blt .sorted (.cons (.v 4) .nil)) .nil))) .nil)))
/-- _law_town -/
def S203 : S := .cons (.asg 3 (.call 202 (.cons (.v 0) (.cons (.bin .Add (.k (.int 1)) (.call 198 (.cons (.v 0) (.cons (.v 1) .nil)))) .nil)))) (.cons (.par [4, 5] (.cons (.lst (.nil)) (.cons (.dnew) .nil))) (.cons (.for_ [6] false .range (.cons (.blt .len (.cons (.v 3) .nil)) .nil) (.cons (.asg 4 (.bin .Add (.v 4) (.comp (.tup (.cons (.ix (.v 3) (.v 6)) (.cons (.v 7) .nil))) [7] false .seq (.cons (.sl (.v 3) (.bin .Add (.v 6) (.k (.int 1))) (.nil)) .nil) (.nil) [7]))) .nil)) (.cons (.ite (.cmp .Gt (.call 198 (.cons (.v 0) (.cons (.k (.int 3)) .nil))) (.k (.int 0))) (.cons (.for_ [6] false .range (.cons (.blt .len (.cons (.v 3) .nil)) .nil) (.cons (.asg 8 (.tup (.cons (.ix (.v 3) (.v 6)) (.cons (.ix (.v 3) (.bin .Sub (.bin .Add (.v 6) (.k (.int 1))) (.bin .Mult (.blt .len (.cons (.v 3) .nil)) (.bin .FloorDiv (.bin .Add (.v 6) (.k (.int 1))) (.blt .len (.cons (.v 3) .nil)))))) .nil)))) (.cons (.ite (.and (.cmp .NotEq (.ix (.v 8) (.k (.int 0))) (.ix (.v 8) (.k (.int 1)))) (.cmp .Lt (.blt .len (.cons (.v 5) .nil)) (.v 2))) (.cons (.put 5 (.blt .tuple (.cons (.blt .sorted (.cons (.v 8) .nil)) .nil)) (.k (.bl true))) .nil) (.nil)) .nil))) .nil) (.nil)) (.cons (.for_ [9] false .range (.cons (.call 198 (.cons (.v 0) (.cons (.v 2) .nil))) .nil) (.cons (.ite (.and (.cmp .NotEq (.v 4) (.lst (.nil))) (.cmp .Lt (.blt .len (.cons (.v 5) .nil)) (.v 2))) (.cons (.put 5 (.call 199 (.cons (.v 0) (.cons (.v 4) .nil))) (.k (.bl true))) .nil) (.nil)) .nil)) (.cons (.asg 10 (.blt .sorted (.cons (.blt .list (.cons (.v 5) .nil)) .nil))) (.cons (.ite (.and (.cmp .NotEq (.v 10) (.lst (.nil))) (.cmp .Eq (.call 198 (.cons (.v 0) (.cons (.k (.int 3)) .nil))) (.k (.int 0)))) (.cons (.exp (.mthM .pop 10 (.cons (.call 198 (.cons (.v 0) (.cons (.blt .len (.cons (.v 10) .nil)) .nil))) .nil))) .nil) (.nil)) (.cons (.ret (.tup (.cons (.v 3) (.cons (.blt .tuple (.cons (.v 10) .nil)) .nil)))) .nil)))))))
/-- _law_made -/
def S204 : S := .cons (.ret (.new 6 29 (.cons (.ix (.v 0) (.k (.int 0))) (.cons (.ix (.v 0) (.k (.int 1))) .nil)))) .nil
/-- _law_closed -/
def S208 : S := .cons (.ret (.tup (.cons (.ix (.v 0) (.k (.int 0))) (.cons (.blt .tuple (.cons (.comp (.ix (.ix (.v 0) (.k (.int 1))) (.v 2)) [2] false .range (.cons (.blt .len (.cons (.ix (.v 0) (.k (.int 1))) .nil)) .nil) (.cmp .NotIn (.v 2) (.v 1)) [2]) .nil)) .nil)))) .nil
/-- _law_plan -/
def S219 : S := .cons (.asg 2 (.call 199 (.cons (.v 0) (.cons (.tup (.cons (.tup (.cons (.k (.int 1)) (.cons (.bin .Sub (.k (.int 0)) (.k (.int 1))) .nil))) (.cons (.tup (.cons (.k (.int 1)) (.cons (.bin .Sub (.k (.int 0)) (.k (.int 1))) (.cons (.k (.int 0)) .nil)))) (.cons (.tup (.cons (.k (.int 0)) (.cons (.k (.int 0)) (.cons (.k (.int 1)) .nil)))) .nil)))) .nil)))) (.cons (.ret (.blt .tuple (.cons (.comp (.call 199 (.cons (.v 0) (.cons (.v 2) .nil))) [3] false .seq (.cons (.ix (.v 1) (.k (.int 1))) .nil) (.nil) [3]) .nil))) .nil)
end Fl
set_option Elab.async false
set_option linter.all false
set_option maxRecDepth 100000
set_option maxHeartbeats 0
namespace Fl
namespace k83
open PySem PySem.Spec PyProof.Rows L2
def K_BOTH : D := .int 0
def K_PLACE : D := .str "place"
def K_STREET : D := .str "street"
def K_WAY : D := .str "way"
def K_SIZES : D := .ck [("place", .int 2), ("street", .int 3), ("way", .int 3)]
def LI_56039 : LI := (dat.lams.lookup 56039).getD ⟨"", ⟨[], [], none, [], [], none, []⟩, .Tuple [] 0 ⟨0, 0, 0, 0⟩, ⟨.function, [], false, false, []⟩, []⟩
def LI_63043 : LI := (dat.lams.lookup 63043).getD ⟨"", ⟨[], [], none, [], [], none, []⟩, .Tuple [] 0 ⟨0, 0, 0, 0⟩, ⟨.function, [], false, false, []⟩, []⟩
def LI_69044 : LI := (dat.lams.lookup 69044).getD ⟨"", ⟨[], [], none, [], [], none, []⟩, .Tuple [] 0 ⟨0, 0, 0, 0⟩, ⟨.function, [], false, false, []⟩, []⟩
theorem c6 : dat.codes 6 = some ⟨1, 0, 1, S6⟩ := by kernel_rfl
theorem c7 : dat.codes 7 = some ⟨3, 0, 3, S7⟩ := by kernel_rfl
theorem c8 : dat.codes 8 = some ⟨2, 0, 2, S8⟩ := by kernel_rfl
theorem c9 : dat.codes 9 = some ⟨1, 0, 2, S9⟩ := by kernel_rfl
theorem c10 : dat.codes 10 = some ⟨1, 0, 1, S10⟩ := by kernel_rfl
theorem c11 : dat.codes 11 = some ⟨2, 0, 2, S11⟩ := by kernel_rfl
theorem c12 : dat.codes 12 = some ⟨1, 0, 1, S12⟩ := by kernel_rfl
theorem c13 : dat.codes 13 = some ⟨4, 0, 6, S13⟩ := by kernel_rfl
theorem c56039 : dat.codes 56039 = some ⟨2, 1, 3, S83_0⟩ := by kernel_rfl
theorem c83 : dat.codes 83 = some ⟨3, 0, 3, S83 56039 LI_56039⟩ := by kernel_rfl
theorem c14 : dat.codes 14 = some ⟨2, 0, 2, S14⟩ := by kernel_rfl
theorem c63043 : dat.codes 63043 = some ⟨2, 0, 2, S15_0⟩ := by kernel_rfl
theorem c15 : dat.codes 15 = some ⟨1, 0, 1, S15 63043 LI_63043⟩ := by kernel_rfl
theorem c16 : dat.codes 16 = some ⟨2, 0, 2, S16⟩ := by kernel_rfl
theorem c69044 : dat.codes 69044 = some ⟨2, 1, 3, S17_0⟩ := by kernel_rfl
theorem c17 : dat.codes 17 = some ⟨2, 0, 2, S17 69044 LI_69044⟩ := by kernel_rfl
theorem c117 : dat.codes 117 = some ⟨1, 0, 1, S117⟩ := by kernel_rfl
theorem c118 : dat.codes 118 = some ⟨2, 0, 2, S118⟩ := by kernel_rfl
theorem c29 : dat.codes 29 = some ⟨3, 0, 4, S29⟩ := by kernel_rfl
theorem c30 : dat.codes 30 = some ⟨1, 0, 1, S30⟩ := by kernel_rfl
theorem c31 : dat.codes 31 = some ⟨1, 0, 1, S31⟩ := by kernel_rfl
theorem c32 : dat.codes 32 = some ⟨1, 0, 1, S32⟩ := by kernel_rfl
theorem c33 : dat.codes 33 = some ⟨2, 0, 2, S33⟩ := by kernel_rfl
theorem c34 : dat.codes 34 = some ⟨1, 0, 1, S34⟩ := by kernel_rfl
/-- town_of -/
def S660 : S := .cons (.asgT [.s 1, .s 2] (.v 0)) (.cons (.ret (.new 6 29 (.cons (.v 1) (.cons (.v 2) .nil)))) .nil)
theorem c660 : dat.codes 660 = some ⟨1, 0, 3, S660⟩ := by kernel_rfl
theorem c128 : dat.codes 128 = some ⟨2, 0, 3, S128⟩ := by kernel_rfl
/-- told_row -/
def S661 : S := .cons (.asg 1 (.ite (.blt (.isi .str) (.cons (.v 0) .nil)) (.mth .split (.v 0) (.cons (.k (.str " ")) .nil)) (.lst (.cons (.k (.str "")) .nil)))) (.cons (.ite (.or (.cmp .NotIn (.ix (.v 1) (.k (.int 0))) (.k K_SIZES)) (.or (.cmp .NotEq (.blt .len (.cons (.v 1) .nil)) (.ix (.k K_SIZES) (.ix (.v 1) (.k (.int 0))))) (.not (.blt .all (.cons (.comp (.call 9 (.cons (.v 2) .nil)) [2] false .seq (.cons (.v 1) .nil) (.nil) [2]) .nil))))) (.cons (.ret (.tup (.nil))) .nil) (.nil)) (.cons (.ret (.blt .tuple (.cons (.v 1) .nil))) .nil))
theorem c661 : dat.codes 661 = some ⟨1, 0, 3, S661⟩ := by kernel_rfl
/-- may_stand -/
def S662 : S := .cons (.ret (.and (.cmp .NotEq (.v 1) (.tup (.nil))) (.or (.cmp .NotEq (.ix (.v 1) (.k (.int 0))) (.k K_PLACE)) (.blt .all (.cons (.comp (.cmp .Eq (.ix (.v 2) (.k (.int 0))) (.k K_PLACE)) [2] false .seq (.cons (.v 0) .nil) (.nil) [2]) .nil))))) .nil
theorem c662 : dat.codes 662 = some ⟨2, 0, 3, S662⟩ := by kernel_rfl
/-- wrong_in_rows -/
def S663 : S := .cons (.ite (.or (.not (.blt (.isi .tuple) (.cons (.v 0) .nil))) (.cmp .Eq (.v 0) (.tup (.nil)))) (.cons (.ret (.lst (.cons (.k .non) .nil))) .nil) (.nil)) (.cons (.asg 1 (.comp (.call 661 (.cons (.v 2) .nil)) [2] false .seq (.cons (.v 0) .nil) (.nil) [2])) (.cons (.ret (.sl (.comp (.v 3) [3, 4] true .enum (.cons (.v 1) .nil) (.not (.call 662 (.cons (.sl (.v 1) (.nil) (.v 3)) (.cons (.v 4) .nil)))) [3, 4]) (.nil) (.k (.int 1)))) .nil))
theorem c663 : dat.codes 663 = some ⟨1, 0, 5, S663⟩ := by kernel_rfl
/-- street_told -/
def S664 : S := .cons (.ret (.ite (.cmp .Eq (.ix (.v 0) (.k (.int 0))) (.k K_STREET)) (.sl (.v 0) (.k (.int 1)) (.nil)) (.tup (.cons (.blt .min (.cons (.sl (.v 0) (.k (.int 1)) (.nil)) .nil)) (.cons (.blt .max (.cons (.sl (.v 0) (.k (.int 1)) (.nil)) .nil)) .nil))))) .nil
theorem c664 : dat.codes 664 = some ⟨1, 0, 1, S664⟩ := by kernel_rfl
/-- number_told -/
def S665 : S := .cons (.ite (.cmp .Eq (.ix (.v 0) (.k (.int 0))) (.k K_STREET)) (.cons (.ret (.k K_BOTH)) .nil) (.nil)) (.cons (.ret (.ite (.cmp .Lt (.ix (.v 0) (.k (.int 1))) (.ix (.v 0) (.k (.int 2)))) (.k K_AHEAD) (.k K_BACK))) .nil)
theorem c665 : dat.codes 665 = some ⟨1, 0, 1, S665⟩ := by kernel_rfl
/-- parts_told -/
def S666 : S := .cons (.asg 1 (.comp (.call 661 (.cons (.v 2) .nil)) [2] false .seq (.cons (.v 0) .nil) (.nil) [2])) (.cons (.asg 3 (.blt .tuple (.cons (.comp (.ix (.v 4) (.k (.int 1))) [4] false .seq (.cons (.v 1) .nil) (.cmp .Eq (.ix (.v 4) (.k (.int 0))) (.k K_PLACE)) [4]) .nil))) (.cons (.asg 5 (.comp (.v 4) [4] false .seq (.cons (.v 1) .nil) (.cmp .NotEq (.ix (.v 4) (.k (.int 0))) (.k K_PLACE)) [4])) (.cons (.ret (.tup (.cons (.tup (.cons (.v 3) (.cons (.blt .tuple (.cons (.comp (.call 664 (.cons (.v 4) .nil)) [4] false .seq (.cons (.v 5) .nil) (.nil) [4]) .nil)) .nil))) (.cons (.blt .tuple (.cons (.comp (.call 665 (.cons (.v 4) .nil)) [4] false .seq (.cons (.v 5) .nil) (.nil) [4]) .nil)) .nil)))) .nil)))
theorem c666 : dat.codes 666 = some ⟨1, 0, 6, S666⟩ := by kernel_rfl
/-- row_by -/
def S667 : S := .cons (.ite (.cmp .Eq (.v 1) (.k K_BOTH)) (.cons (.ret (.fstr (.cons (.fv (.k K_STREET)) (.cons (.k (.str " ")) (.cons (.fv (.ix (.v 0) (.k (.int 0)))) (.cons (.k (.str " ")) (.cons (.fv (.ix (.v 0) (.k (.int 1)))) .nil))))))) .nil) (.nil)) (.cons (.ret (.ite (.cmp .Eq (.v 1) (.k K_AHEAD)) (.fstr (.cons (.fv (.k K_WAY)) (.cons (.k (.str " ")) (.cons (.fv (.ix (.v 0) (.k (.int 0)))) (.cons (.k (.str " ")) (.cons (.fv (.ix (.v 0) (.k (.int 1)))) .nil)))))) (.fstr (.cons (.fv (.k K_WAY)) (.cons (.k (.str " ")) (.cons (.fv (.ix (.v 0) (.k (.int 1)))) (.cons (.k (.str " ")) (.cons (.fv (.ix (.v 0) (.k (.int 0)))) .nil)))))))) .nil)
theorem c667 : dat.codes 667 = some ⟨2, 0, 2, S667⟩ := by kernel_rfl
/-- rows_by -/
def S668 : S := .cons (.asg 2 (.comp (.fstr (.cons (.fv (.k K_PLACE)) (.cons (.k (.str " ")) (.cons (.fv (.v 3)) .nil)))) [3] false .seq (.cons (.att (.v 0) 2) .nil) (.nil) [3])) (.cons (.ret (.blt .tuple (.cons (.bin .Add (.v 2) (.comp (.call 667 (.cons (.v 4) (.cons (.v 5) .nil))) [4, 5] true .zip (.cons (.att (.v 0) 4) (.cons (.v 1) .nil)) (.nil) [4, 5])) .nil))) .nil)
theorem c668 : dat.codes 668 = some ⟨2, 0, 6, S668⟩ := by kernel_rfl
/-- town_rows -/
def S669 : S := .cons (.exp (.call 128 (.cons (.v 0) (.cons (.v 1) .nil)))) (.cons (.ret (.call 668 (.cons (.v 0) (.cons (.v 1) .nil)))) .nil)
theorem c669 : dat.codes 669 = some ⟨2, 0, 2, S669⟩ := by kernel_rfl
/-- read_town -/
def S670 : S := .cons (.for_ [1] false .seq (.cons (.call 663 (.cons (.v 0) .nil)) .nil) (.cons (.never) .nil)) (.cons (.asgT [.s 2, .s 3] (.call 666 (.cons (.v 0) .nil))) (.cons (.ret (.tup (.cons (.call 660 (.cons (.v 2) .nil)) (.cons (.v 3) .nil)))) .nil))
theorem c670 : dat.codes 670 = some ⟨1, 0, 4, S670⟩ := by kernel_rfl
theorem c197 : dat.codes 197 = some ⟨2, 0, 5, S197⟩ := by kernel_rfl
theorem c198 : dat.codes 198 = some ⟨2, 0, 4, S198⟩ := by kernel_rfl
theorem c199 : dat.codes 199 = some ⟨2, 0, 2, S199⟩ := by kernel_rfl
theorem c200 : dat.codes 200 = some ⟨2, 0, 3, S200⟩ := by kernel_rfl
theorem c202 : dat.codes 202 = some ⟨2, 0, 11, S202⟩ := by kernel_rfl
theorem c203 : dat.codes 203 = some ⟨3, 0, 11, S203⟩ := by kernel_rfl
theorem c204 : dat.codes 204 = some ⟨1, 0, 1, S204⟩ := by kernel_rfl
theorem c208 : dat.codes 208 = some ⟨2, 0, 3, S208⟩ := by kernel_rfl
theorem c219 : dat.codes 219 = some ⟨2, 0, 4, S219⟩ := by kernel_rfl
/-- _law_text -/
def S671 : S := .cons (.asg 2 (.comp (.bin .Add (.k (.str "place ")) (.v 3)) [3] false .seq (.cons (.ix (.v 0) (.k (.int 0))) .nil) (.nil) [3])) (.cons (.for_ [4] false .range (.cons (.blt .len (.cons (.v 1) .nil)) .nil) (.cons (.asgT [.s 5, .s 6] (.ix (.ix (.v 0) (.k (.int 1))) (.v 4))) (.cons (.exp (.mthM .append 2 (.cons (.ite (.cmp .Eq (.ix (.v 1) (.v 4)) (.k (.int 0))) (.bin .Add (.bin .Add (.bin .Add (.k (.str "street ")) (.v 5)) (.k (.str " "))) (.v 6)) (.ite (.cmp .Eq (.ix (.v 1) (.v 4)) (.k (.int 1))) (.bin .Add (.bin .Add (.bin .Add (.k (.str "way ")) (.v 5)) (.k (.str " "))) (.v 6)) (.bin .Add (.bin .Add (.bin .Add (.k (.str "way ")) (.v 6)) (.k (.str " "))) (.v 5)))) .nil))) .nil))) (.cons (.ret (.blt .tuple (.cons (.v 2) .nil))) .nil))
theorem c671 : dat.codes 671 = some ⟨2, 0, 7, S671⟩ := by kernel_rfl
/-- _law_right -/
def S672 : S := .cons (.for_ [1] false .range (.cons (.k (.int 6)) .nil) (.cons (.asg 2 (.call 203 (.cons (.v 0) (.cons (.k (.int 8)) (.cons (.k (.int 14)) .nil))))) (.cons (.par [3, 4, 5] (.cons (.call 204 (.cons (.v 2) .nil)) (.cons (.call 219 (.cons (.v 0) (.cons (.v 2) .nil))) (.cons (.call 219 (.cons (.v 0) (.cons (.v 2) .nil))) .nil)))) (.cons (.asg 6 (.call 671 (.cons (.v 2) (.cons (.v 4) .nil)))) (.cons (.par [7, 8] (.cons (.call 670 (.cons (.v 6) .nil)) (.cons (.callK 670 0 1 (.nil) (.cons (.v 6) .nil) [0]) .nil))) (.cons (.asg 9 (.tup (.cons (.call 669 (.cons (.v 3) (.cons (.v 4) .nil))) (.cons (.callK 669 0 2 (.nil) (.cons (.v 4) (.cons (.v 3) .nil)) [1, 0]) (.cons (.att (.ix (.v 7) (.k (.int 0))) 5) (.cons (.ix (.v 7) (.k (.int 1))) (.cons (.cmp .Eq (.ix (.v 8) (.k (.int 0))) (.v 3)) (.cons (.ix (.v 8) (.k (.int 1))) (.cons (.blt .len (.cons (.v 7) .nil)) (.cons (.call 669 (.cons (.ix (.v 7) (.k (.int 0))) (.cons (.ix (.v 7) (.k (.int 1))) .nil))) .nil)))))))))) (.cons (.ite (.not (.call 200 (.cons (.v 9) (.cons (.tup (.cons (.v 6) (.cons (.v 6) (.cons (.v 2) (.cons (.v 4) (.cons (.k (.bl true)) (.cons (.v 4) (.cons (.k (.int 2)) (.cons (.v 6) .nil))))))))) .nil)))) (.cons (.ret (.k (.bl false))) .nil) (.nil)) (.cons (.ite (.not (.call 200 (.cons (.cmp .Eq (.call 669 (.cons (.v 3) (.cons (.v 5) .nil))) (.v 6)) (.cons (.cmp .Eq (.v 5) (.v 4)) .nil)))) (.cons (.ret (.k (.bl false))) .nil) (.nil)) (.cons (.ite (.and (.cmp .NotEq (.ix (.v 2) (.k (.int 1))) (.tup (.nil))) (.cmp .Eq (.call 669 (.cons (.call 204 (.cons (.call 208 (.cons (.v 2) (.cons (.tup (.cons (.k (.int 0)) .nil)) .nil))) .nil)) (.cons (.sl (.v 4) (.k (.int 1)) (.nil)) .nil))) (.v 6))) (.cons (.ret (.k (.bl false))) .nil) (.nil)) .nil))))))))) (.cons (.ret (.k (.bl true))) .nil)
theorem c672 : dat.codes 672 = some ⟨1, 0, 10, S672⟩ := by kernel_rfl
/-- law -/
def S673 : S := .cons (.ret (.blt .all (.cons (.comp (.call 672 (.cons (.call 197 (.cons (.v 0) (.cons (.v 1) .nil))) .nil)) [1] false .range (.cons (.blt .max (.cons (.k (.int 1)) (.cons (.blt .min (.cons (.blt .len (.cons (.v 0) .nil)) (.cons (.k (.int 3)) .nil))) .nil))) .nil) (.nil) [1]) .nil))) .nil
theorem c673 : dat.codes 673 = some ⟨1, 0, 2, S673⟩ := by kernel_rfl
end k83
end Fl
set_option Elab.async false
set_option linter.all false
set_option maxRecDepth 100000
set_option maxHeartbeats 0
namespace Fl
namespace k83
open PySem PySem.Spec PyProof.Rows L2
theorem run (w : World) : HandSHeadRun.RunEq Rw (PySem.W.view Rw.prog [67]) hk ob 20000 loose w := by
  refine PySem.W.byRow2 "special-get-raises" (P := fun w => HandSHeadRun.RunEq Rw (PySem.W.view Rw.prog [67]) hk ob 20000 loose w) (fun w => ?_) (fun w => ?_) w
  · intro os
    kernel_rfl
  · intro os
    kernel_rfl
end k83
end Fl
set_option Elab.async false
set_option linter.all false
set_option maxRecDepth 100000
set_option maxHeartbeats 0
/-! Layer H, part 0: reasoning about runs. -/
namespace Fl
namespace Hr
open PySem PySem.Spec PyProof.Rows L2
/-! ### simp rules -/
theorem obs {α β : Type} (x : α) (f : α → Option β) : (some x).bind f = f x := (rfl)
theorem oms {α β : Type} (x : α) (f : α → β) : (some x).map f = some (f x) := (rfl)
@[simp] theorem bind_ok' {α β : Type} (a : α) (ρ : Env) (f : α → Env → R β) : (R.ok a ρ).bind f = f a ρ := (rfl)
@[simp] theorem toO_ok' {α : Type} (a : α) (ρ : Env) (f : α → Env → O) : (R.ok a ρ).toO f = f a ρ := (rfl)
@[simp] theorem opt_some' {α : Type} (a : α) (ρ : Env) : R.opt (some a) ρ = .ok a ρ := (rfl)
@[simp] theorem O_of_some (ρ : Env) : O.of (some ρ) = .nx ρ := (rfl)
@[simp] theorem view_d (ρ : Env) (v : D) : view ρ (.d v) = some v := (rfl)
@[simp] theorem view_n (ρ : Env) (o : MO) : view ρ (.n o) = some (fz o) := (rfl)
@[simp] theorem toD_d (ρ : Env) (v : D) : toD (.d v) ρ = .ok v ρ := (rfl)
@[simp] theorem toD_n (ρ : Env) (o : MO) : toD (.n o) ρ = .ok (fz o) ρ := (rfl)
@[simp] theorem toDs_nil (ρ : Env) : toDs [] ρ = .ok [] ρ := (rfl)
@[simp] theorem toDs_cons' (r : RV) (rs : List RV) (ρ : Env) : toDs (r :: rs) ρ = (toD r ρ).bind fun d ρ1 => (toDs rs ρ1).bind fun ds ρ2 => .ok (d :: ds) ρ2 := (rfl)
@[simp] theorem views_nil (ρ : Env) : views ρ [] = some [] := (rfl)
@[simp] theorem views_cons (r : RV) (rs : List RV) (ρ : Env) : views ρ (r :: rs) = (match view ρ r with
    | some d => match views ρ rs with
      | some ds => some (d :: ds)
      | none => none
    | none => none) := (rfl)
@[simp] theorem fz_l (xs : List D) : fz (.l xs) = .lst xs := (rfl)
@[simp] theorem asBl_bl (b : Bool) : asBl (.d (.bl b)) = some b := (rfl)
@[simp] theorem svOf_d (v : D) : svOf (.d v) = some (.d v) := (rfl)
@[simp] theorem svOf_n (o : MO) : svOf (.n o) = some (.m true o) := (rfl)
@[simp] theorem truth_bl (b : Bool) : truth (.bl b) = some b := (rfl)
@[simp] theorem retF_d (v : D) (ρ : Env) : retF (.d v) ρ = .rt (.d v) ρ := (rfl)
@[simp] theorem retF_n (o : MO) (ρ : Env) : retF (.n o) ρ = .rt (.n o) ρ := (rfl)
@[simp] theorem outS_m (w : Bool) (o : MO) : outS (some (.m w o)) = .m w o := (rfl)
@[simp] theorem outS_d (v : D) : outS (some (.d v)) = .d .non := (rfl)
@[simp] theorem outS_n : outS none = .d .non := (rfl)
@[simp] theorem outs_0 (ρ : Env) : outs 0 ρ = [] := (rfl)
@[simp] theorem outs_s (n : Nat) (a : Option SV) (r : Env) : outs (n + 1) (a :: r) = outS a :: outs n r := (rfl)
@[simp] theorem forRun_nil (tg : List Nat) (many : Bool) (b : Env → O) (ρ : Env) : forRun tg many b [] ρ = .nx ρ := (rfl)
/-- a call's end where nothing was handed by reference -/
def callD (ρ : Env) : CO → R RV
  | .ok r _ => .ok r ρ
  | .ex e _ => .ex e ρ
  | .bad => .bad
@[simp] theorem callD_ok (ρ : Env) (r : RV) (as : List SV) : callD ρ (.ok r as) = .ok r ρ := (rfl)
theorem tb_data : ∀ (ds : List D) (as : List SV) (ρ : Env), takeBack (ds.map RV.d) as ρ = ρ
  | [], _, _ => by unfold takeBack; rfl
  | _ :: _, [], _ => by unfold takeBack; rfl
  | d :: ds, a :: as, ρ => by
    show takeBack (.d d :: ds.map RV.d) (a :: as) ρ = ρ
    unfold takeBack
    exact tb_data ds as ρ
theorem back_data (ds : List D) (ρ : Env) (o : CO) : back (ds.map RV.d) ρ o = callD ρ o := by
  cases o with
  | ok r as => show R.ok r _ = R.ok r _; rw [tb_data]
  | ex e as => show R.ex e _ = R.ex e _; rw [tb_data]
  | bad => rfl
theorem restA_data {br : Nat → Bool} (nb : ∀ j, br j = false) : ∀ (rs : List RV) (j : Nat) (ρ : Env), restA br j rs ρ = (toDs rs ρ).bind fun ds ρ1 => .ok (ds.map RV.d) ρ1
  | [], _, _ => rfl
  | r :: rs, j, ρ => by
    have e : restA br j (r :: rs) ρ = (toD r ρ).bind fun d ρ1 => (restA br (j + 1) rs ρ1).bind fun qs ρ2 => .ok (.d d :: qs) ρ2 := by
      conv => lhs; unfold restA
      split
      · rename_i i h
        rw [nb] at h
        cases h
      · rfl
    rw [e]
    show _ = ((toD r ρ).bind fun d ρ1 => (toDs rs ρ1).bind fun ds ρ2 => .ok (d :: ds) ρ2).bind _
    cases toD r ρ with
    | ok d ρ1 =>
      show (restA br (j + 1) rs ρ1).bind _ = ((toDs rs ρ1).bind fun ds ρ2 => .ok (d :: ds) ρ2).bind _
      rw [restA_data nb rs (j + 1) ρ1]
      cases toDs rs ρ1 <;> rfl
    | ex e ρ1 => rfl
    | bad => rfl
theorem slotsR_data : ∀ (ds : List D), slotsR (ds.map RV.d) = []
  | [] => rfl
  | d :: ds => slotsR_data ds
theorem readA_data (ρ : Env) : ∀ (ds : List D), readA ρ (ds.map RV.d) = some (ds.map SV.d)
  | [] => rfl
  | d :: ds => by
    show (readA ρ (ds.map RV.d)).map (SV.d d :: ·) = _
    rw [readA_data ρ ds]
    rfl
/-- a call of a def that takes data alone -/
theorem calling_data {P : PI} {call : Call} {f : Nat} {caps : List D} (nb : ∀ j, P.byRef f j = false) (rs : List RV) (ρ : Env) : calling P call f caps rs ρ = (toDs rs ρ).bind fun ds ρ1 => callD ρ1 (call f caps (ds.map SV.d)) := by
  unfold calling
  rw [restA_data nb]
  cases toDs rs ρ with
  | ok ds ρ1 =>
    show (if (slotsR (ds.map RV.d)).Nodup then _ else _) = _
    rw [slotsR_data, if_pos List.nodup_nil, readA_data]
    exact back_data ds ρ1 _
  | ex e ρ1 => rfl
  | bad => rfl
/-! ### loops -/
theorem forRun_inv {tg : List Nat} {many : Bool} {b : Env → O} (I : List D → Env → Prop) : ∀ (xs : List D) (ρ : Env), I xs ρ → (∀ x xs ρ, I (x :: xs) ρ → ∃ ρ1 ρ2, bindT tg many x ρ = some ρ1 ∧ (b ρ1 = .nx ρ2 ∨ b ρ1 = .ct ρ2) ∧ I xs ρ2) →
    ∃ ρ', forRun tg many b xs ρ = .nx ρ' ∧ I [] ρ'
  | [], ρ, h, _ => ⟨ρ, rfl, h⟩
  | x :: xs, ρ, h, st => by
    obtain ⟨ρ1, ρ2, e1, e2, h2⟩ := st x xs ρ h
    obtain ⟨ρ', e3, h3⟩ := forRun_inv I xs ρ2 h2 st
    refine ⟨ρ', ?_, h3⟩
    unfold forRun
    rw [e1]
    rcases e2 with e2 | e2
    · dsimp only; rw [e2]; exact e3
    · dsimp only; rw [e2]; exact e3
/-- .. that may return -/
theorem forRun_ret {tg : List Nat} {many : Bool} {b : Env → O} (I : List D → Env → Prop) (Q : RV → Env → Prop) : ∀ (xs : List D) (ρ : Env), I xs ρ → (∀ x xs ρ, I (x :: xs) ρ → ∃ ρ1, bindT tg many x ρ = some ρ1 ∧ ((∃ ρ2, (b ρ1 = .nx ρ2 ∨ b ρ1 = .ct ρ2) ∧ I xs ρ2) ∨ ∃ r ρ2, b ρ1 = .rt r ρ2 ∧ Q r ρ2)) →
    (∃ ρ', forRun tg many b xs ρ = .nx ρ' ∧ I [] ρ') ∨ ∃ r ρ', forRun tg many b xs ρ = .rt r ρ' ∧ Q r ρ'
  | [], ρ, h, _ => .inl ⟨ρ, rfl, h⟩
  | x :: xs, ρ, h, st => by
    obtain ⟨ρ1, e1, e2⟩ := st x xs ρ h
    have e0 : forRun tg many b (x :: xs) ρ = (match b ρ1 with
      | .nx ρ2 => forRun tg many b xs ρ2
      | .ct ρ2 => forRun tg many b xs ρ2
      | .bk ρ2 => .nx ρ2
      | o => o) := by
      conv => lhs; unfold forRun
      rw [e1]
      try rfl
    rcases e2 with ⟨ρ2, e2, h2⟩ | ⟨r, ρ2, e2, h2⟩
    · have ih := forRun_ret I Q xs ρ2 h2 st
      rw [e0]
      rcases e2 with e2 | e2 <;> (rw [e2]; exact ih)
    · right
      exact ⟨r, ρ2, by rw [e0, e2], h2⟩
/-! ### comprehensions -/
theorem compRun_inv {own tg : List Nat} {many : Bool} {c e : Den} (J : List D → List D → Env → Prop) : ∀ (xs : List D) (ρ : Env) (acc : List D), J xs acc ρ → acc.length + xs.length ≤ SL →
    (∀ x xs acc ρ, J (x :: xs) acc ρ → ∃ ρ1 bb ρ2, bindT tg many x (wipeE ρ own) = some ρ1 ∧ c.t ρ1 = .ok bb ρ2 ∧ (bb = true → ∃ d ρ3, (e.v ρ2).bind toD = .ok d ρ3 ∧ J xs (acc ++ [d]) ρ3) ∧ (bb = false → J xs acc ρ2)) →
    ∃ ys ρ', compRun own tg many c e xs ρ acc = .ok ys ρ' ∧ J [] ys ρ'
  | [], ρ, acc, h, _, _ => ⟨acc, ρ, rfl, h⟩
  | x :: xs, ρ, acc, h, hl, st => by
    obtain ⟨ρ1, bb, ρ2, e1, e2, k1, k2⟩ := st x xs acc ρ h
    rw [List.length_cons] at hl
    have e0 : compRun own tg many c e (x :: xs) ρ acc = (match c.t ρ1 with
      | .ok true ρ2 => (match (e.v ρ2).bind toD with
        | .ok d ρ3 => if acc.length < SL then compRun own tg many c e xs ρ3 (acc ++ [d]) else .bad
        | _ => .bad)
      | .ok false ρ2 => compRun own tg many c e xs ρ2 acc
      | _ => .bad) := by
      conv => lhs; unfold compRun
      rw [e1]
      try rfl
    rw [e0, e2]
    cases bb with
    | true =>
      obtain ⟨d, ρ3, e3, h3⟩ := k1 rfl
      obtain ⟨ys, ρ', e4, h4⟩ := compRun_inv J xs ρ3 (acc ++ [d]) h3 (by rw [List.length_append, List.length_singleton]; omega) st
      refine ⟨ys, ρ', ?_, h4⟩
      dsimp only
      rw [e3]
      dsimp only
      rw [if_pos (by omega)]
      exact e4
    | false => exact compRun_inv J xs ρ2 acc (k2 rfl) (by omega) st
theorem wipe_len : ∀ (own : List Nat) (ρ : Env), (wipeE ρ own).length = ρ.length
  | [], _ => rfl
  | v :: vs, ρ => by
    show ((wipeE ρ vs).set v none).length = _
    rw [List.length_set, wipe_len]
theorem wipe_get : ∀ (own : List Nat) (ρ : Env) (i : Nat), i ∉ own → (wipeE ρ own)[i]? = ρ[i]?
  | [], _, _, _ => rfl
  | v :: vs, ρ, i, h => by
    show ((wipeE ρ vs).set v none)[i]? = _
    rw [List.mem_cons, not_or] at h
    rw [List.getElem?_set_ne (fun z => h.1 z.symm), wipe_get vs ρ i h.2]
theorem backE_len (ρ0 : Env) : ∀ (own : List Nat) (ρ : Env), (backE ρ0 own ρ).length = ρ.length
  | [], _ => rfl
  | v :: vs, ρ => by
    show ((backE ρ0 vs ρ).set v _).length = _
    rw [List.length_set, backE_len]
theorem backE_out (ρ0 : Env) : ∀ (own : List Nat) (ρ : Env) (i : Nat), i ∉ own → (backE ρ0 own ρ)[i]? = ρ[i]?
  | [], _, _, _ => rfl
  | v :: vs, ρ, i, h => by
    show ((backE ρ0 vs ρ).set v _)[i]? = _
    rw [List.mem_cons, not_or] at h
    rw [List.getElem?_set_ne (fun z => h.1 z.symm), backE_out ρ0 vs ρ i h.2]
theorem backE_in (ρ0 : Env) : ∀ (own : List Nat) (ρ : Env) (i : Nat), ρ.length = ρ0.length → i ∈ own → (backE ρ0 own ρ)[i]? = ρ0[i]?
  | v :: vs, ρ, i, hl, h => by
    show ((backE ρ0 vs ρ).set v ((ρ0[v]?).getD none))[i]? = _
    by_cases e : v = i
    · subst e
      by_cases hv : v < ρ0.length
      · rw [List.getElem?_set_self (by rw [backE_len, hl]; exact hv), List.getElem?_eq_getElem hv]
        rfl
      · rw [List.getElem?_eq_none (by rw [List.length_set, backE_len]; omega), List.getElem?_eq_none (by omega)]
    · rw [List.getElem?_set_ne e, backE_in ρ0 vs ρ i hl ((List.mem_cons.mp h).resolve_left fun z => e z.symm)]
/-- the names of a block are put back -/
theorem backE_same {own : List Nat} {ρ ρ' : Env} (h : wipeE ρ' own = wipeE ρ own) : backE ρ own ρ' = ρ := by
  have hl : ρ'.length = ρ.length := by rw [← wipe_len own ρ', h, wipe_len]
  apply List.ext_getElem?
  intro i
  by_cases hi : i ∈ own
  · rw [backE_in ρ own ρ' i hl hi]
  · rw [backE_out ρ own ρ' i hi, ← wipe_get own ρ' i hi, h, wipe_get own ρ i hi]
/-- a block without effects -/
theorem compF_pure {own tg : List Nat} {many : Bool} {c e : Den} {xs : List D} {ρ : Env} (f : D → D) (p : D → Bool) (ho : ownOk own ρ = true) (hl : xs.length ≤ SL)
    (h : ∀ x ∈ xs, ∃ ρ1, bindT tg many x (wipeE ρ own) = some ρ1 ∧ c.t ρ1 = .ok (p x) ρ1 ∧ (p x = true → (e.v ρ1).bind toD = .ok (f x) ρ1) ∧ wipeE ρ1 own = wipeE ρ own) : compF own tg many c e xs ρ = .ok (.n (.l ((xs.filter p).map f))) ρ := by
  have key : ∃ ys ρ', compRun own tg many c e xs ρ [] = .ok ys ρ' ∧ ((([] : List D) ++ ([] : List D).filter p = [] ∧ ys = (xs.filter p).map f) ∧ wipeE ρ' own = wipeE ρ own) := by
    obtain ⟨ys, ρ', e1, e2, e3, _⟩ := compRun_inv (own := own) (tg := tg) (many := many) (c := c) (e := e) (fun l acc ρ' => acc ++ (l.filter p).map f = (xs.filter p).map f ∧ wipeE ρ' own = wipeE ρ own ∧ ∀ x ∈ l, x ∈ xs) xs ρ [] ⟨by simp, rfl, fun _ h => h⟩ (by simpa using hl) (by
      rintro x l acc ρ' ⟨h1, h2, h3⟩
      obtain ⟨ρ1, g1, g2, g3, g4⟩ := h x (h3 x (List.mem_cons_self ..))
      refine ⟨ρ1, p x, ρ1, by rw [h2]; exact g1, g2, fun hp => ⟨f x, ρ1, g3 hp, ?_, g4, fun y hy => h3 y (List.mem_cons_of_mem _ hy)⟩, fun hp => ⟨?_, g4, fun y hy => h3 y (List.mem_cons_of_mem _ hy)⟩⟩
      · rw [← h1, List.filter_cons, if_pos hp, List.map_cons, List.append_assoc]
        rfl
      · rw [← h1, List.filter_cons, if_neg (by rw [hp]; decide)])
    exact ⟨ys, ρ', e1, ⟨rfl, by simpa using e2⟩, e3⟩
  obtain ⟨ys, ρ', e1, ⟨_, e2⟩, e3⟩ := key
  unfold compF
  rw [if_pos ho, e1]
  dsimp only
  rw [backE_same e3, e2]
/-- a block with effects -/
theorem compF_inv {own tg : List Nat} {many : Bool} {c e : Den} (J : List D → List D → Env → Prop) {xs : List D} {ρ : Env} (ho : ownOk own ρ = true) (h0 : J xs [] ρ) (hl : xs.length ≤ SL)
    (st : ∀ x xs acc ρ, J (x :: xs) acc ρ → ∃ ρ1 bb ρ2, bindT tg many x (wipeE ρ own) = some ρ1 ∧ c.t ρ1 = .ok bb ρ2 ∧ (bb = true → ∃ d ρ3, (e.v ρ2).bind toD = .ok d ρ3 ∧ J xs (acc ++ [d]) ρ3) ∧ (bb = false → J xs acc ρ2)) :
    ∃ ys ρ', compF own tg many c e xs ρ = .ok (.n (.l ys)) (backE ρ own ρ') ∧ J [] ys ρ' := by
  obtain ⟨ys, ρ', e1, e2⟩ := compRun_inv J xs ρ [] h0 (by simpa using hl) st
  refine ⟨ys, ρ', ?_, e2⟩
  unfold compF
  rw [if_pos ho, e1]
end Hr
end Fl
set_option Elab.async false
set_option linter.all false
set_option maxRecDepth 100000
set_option maxHeartbeats 0
/-! Layer H, part 1: equality, order, sorting of plain data. -/
namespace Fl
namespace Hr
open PySem PySem.Spec PyProof.Rows L2
/-! ### equality -/
mutual
theorem py_refl : ∀ (d : D) (p : PyData), d.py = some p → PyData.eqv p p = true
  | .non, p, h => by cases h; rfl
  | .bl b, p, h => by cases h; simp [PyData.eqv]
  | .int i, p, h => by cases h; simp [PyData.eqv]
  | .str x, p, h => by cases h; simp [PyData.eqv]
  | .tup xs, p, h => by
    unfold D.py at h
    split at h
    · rename_i ps e; cases h; rw [PyData.eqv]; exact pyL_refl xs ps e
    · cases h
  | .tk xs, p, h => by
    unfold D.py at h
    split at h
    · rename_i ps e; cases h; rw [PyData.eqv]; exact pyL_refl xs ps e
    · cases h
  | .lst xs, p, h => by
    unfold D.py at h
    split at h
    · rename_i ps e; cases h; rw [PyData.eqv]; exact pyL_refl xs ps e
    · cases h
  | .dk _, _, h => by cases h
  | .ck _, _, h => by cases h
  | .dt _, _, h => by cases h
  | .ins _ _, _, h => by cases h
  | .fn _ _, _, h => by cases h
theorem pyL_refl : ∀ (xs : List D) (ps : List PyData), pyL xs = some ps → PyData.eqvAll ps ps = true
  | [], ps, h => by cases h; rfl
  | x :: xs, ps, h => by
    unfold pyL at h
    split at h
    · rename_i p e1
      split at h
      · rename_i ps' e2
        cases h
        rw [PyData.eqvAll, py_refl x p e1, pyL_refl xs ps' e2]
        rfl
      · cases h
    · cases h
end
theorem eqD_self {d : D} {p : PyData} (h : d.py = some p) (hd : p.depth ≤ 60) : eqD d d = some true := by
  unfold eqD
  rw [h]
  dsimp only
  rw [if_pos (by omega), py_refl d p h]
/-- data of one kind, told by e -/
structure Emb {α : Type} [DecidableEq α] (k : Nat) (e : α → D) (g : α → PyData) : Prop where
  py : ∀ a, (e a).py = some (g a)
  eq : ∀ a b, PyData.eqv (g a) (g b) = decide (a = b)
  dp : ∀ a, (g a).depth ≤ k
theorem emb_str : Emb 0 D.str PyData.str := ⟨fun _ => rfl, fun a b => by rw [PyData.eqv]; rfl, fun _ => Nat.le_refl _⟩
theorem emb_int : Emb 0 D.int PyData.int := ⟨fun _ => rfl, fun a b => by rw [PyData.eqv]; rfl, fun _ => Nat.le_refl _⟩
theorem emb_bl : Emb 0 D.bl PyData.bool := ⟨fun _ => rfl, fun a b => by rw [PyData.eqv]; cases a <;> cases b <;> rfl, fun _ => Nat.le_refl _⟩
section
variable {α β : Type} [DecidableEq α] [DecidableEq β] {k : Nat} {e : α → D} {g : α → PyData} {k' : Nat} {e' : β → D} {g' : β → PyData}
theorem Emb.pyL (m : Emb k e g) : ∀ xs : List α, pyL (xs.map e) = some (xs.map g)
  | [] => rfl
  | x :: xs => by
    show (match (e x).py with
      | some p => (match Fl.pyL (xs.map e) with
        | some ps => some (p :: ps)
        | none => none)
      | none => none) = _
    rw [m.py, m.pyL xs]
    rfl
theorem Emb.eqAll (m : Emb k e g) : ∀ xs ys : List α, PyData.eqvAll (xs.map g) (ys.map g) = decide (xs = ys)
  | [], [] => rfl
  | [], _ :: _ => by simp [PyData.eqvAll]
  | _ :: _, [] => by simp [PyData.eqvAll]
  | x :: xs, y :: ys => by
    rw [List.map_cons, List.map_cons, PyData.eqvAll, m.eq, m.eqAll xs ys]
    by_cases h1 : x = y <;> by_cases h2 : xs = ys <;> simp [h1, h2]
theorem Emb.dpAll (m : Emb k e g) : ∀ xs : List α, PyData.depthAll (xs.map g) ≤ k
  | [] => Nat.zero_le _
  | x :: xs => by
    rw [List.map_cons, PyData.depthAll]
    have := m.dp x
    have := m.dpAll xs
    omega
theorem Emb.tup (m : Emb k e g) : Emb (k + 1) (fun xs : List α => D.tup (xs.map e)) (fun xs => PyData.tuple (xs.map g)) :=
  ⟨fun xs => by show (match Fl.pyL (xs.map e) with
      | some ps => some (PyData.tuple ps)
      | none => none) = _
                rw [m.pyL xs], fun a b => by rw [PyData.eqv, m.eqAll], fun a => by rw [PyData.depth]; have := m.dpAll a; omega⟩
theorem Emb.lst (m : Emb k e g) : Emb (k + 1) (fun xs : List α => D.lst (xs.map e)) (fun xs => PyData.list (xs.map g)) :=
  ⟨fun xs => by show (match Fl.pyL (xs.map e) with
      | some ps => some (PyData.list ps)
      | none => none) = _
                rw [m.pyL xs], fun a b => by rw [PyData.eqv, m.eqAll], fun a => by rw [PyData.depth]; have := m.dpAll a; omega⟩
theorem Emb.pair (m : Emb k e g) (m' : Emb k' e' g') : Emb (max k k' + 1) (fun p : α × β => D.tup [e p.1, e' p.2]) (fun p => PyData.tuple [g p.1, g' p.2]) :=
  ⟨fun p => by
      show (match Fl.pyL [e p.1, e' p.2] with
      | some ps => some (PyData.tuple ps)
      | none => none) = _
      unfold Fl.pyL
      rw [m.py]
      unfold Fl.pyL
      rw [m'.py]
      rfl, fun a b => by
      rw [PyData.eqv, PyData.eqvAll, PyData.eqvAll, m.eq, m'.eq]
      obtain ⟨a1, a2⟩ := a
      obtain ⟨b1, b2⟩ := b
      by_cases h1 : a1 = b1 <;> by_cases h2 : a2 = b2 <;> simp [h1, h2, PyData.eqvAll], fun a => by
      rw [PyData.depth, PyData.depthAll, PyData.depthAll, PyData.depthAll]
      have := m.dp a.1
      have := m'.dp a.2
      omega⟩
theorem Emb.eqD (m : Emb k e g) (hk : k ≤ 60) (a b : α) : eqD (e a) (e b) = some (decide (a = b)) := by
  unfold Fl.eqD
  rw [m.py, m.py]
  dsimp only
  have := m.dp a
  rw [if_pos (by omega), m.eq]
theorem Emb.memL (m : Emb k e g) (hk : k ≤ 60) (a : α) (xs : List α) : memL (e a) (xs.map e) = some (decide (a ∈ xs)) := by
  unfold Fl.memL
  rw [m.py, m.pyL]
  dsimp only
  have := m.dp a
  rw [if_pos (by omega)]
  congr 1
  induction xs with
  | nil => rfl
  | cons x xs ih =>
    rw [List.map_cons, List.any_cons, ih, m.eq]
    by_cases h : x = a
    · simp [h]
    · have h' : ¬ a = x := fun z => h z.symm
      simp [h, h']
end
abbrev dS : Str → D := D.str
abbrev dSs (xs : List Str) : D := .tup (xs.map D.str)
abbrev dP (p : Str × Str) : D := .tup [.str p.1, .str p.2]
abbrev dPs (xs : List (Str × Str)) : D := .tup (xs.map dP)
abbrev dIs (xs : List Int) : D := .tup (xs.map D.int)
abbrev gP (p : Str × Str) : PyData := .tuple [.str p.1, .str p.2]
theorem emb_P : Emb 1 dP gP := emb_str.pair emb_str
theorem emb_Ss : Emb 1 dSs (fun xs => .tuple (xs.map .str)) := emb_str.tup
theorem emb_Is : Emb 1 dIs (fun xs => .tuple (xs.map .int)) := emb_int.tup
theorem emb_Ps : Emb 2 dPs (fun xs => .tuple (xs.map gP)) := emb_P.tup
/-! ### order -/
/-- texts, letter by letter -/
def sl (x y : Str) : Prop := x.cps.toList < y.cps.toList
instance (x y : Str) : Decidable (sl x y) := inferInstanceAs (Decidable (x.cps.toList < y.cps.toList))
/-- pairs of texts -/
def pl (p q : Str × Str) : Prop := if p.1 = q.1 then sl p.2 q.2 else sl p.1 q.1
instance (p q : Str × Str) : Decidable (pl p q) := by unfold pl; infer_instance
theorem str_eq {x y : Str} (h : x.cps.toList = y.cps.toList) : x = y := by
  cases x; cases y
  simp only [Str.mk.injEq]
  exact Array.toList_inj.mp h
theorem sl_irr (x : Str) : ¬ sl x x := List.lt_irrefl _
theorem sl_trans {x y z : Str} (h : sl x y) (h' : sl y z) : sl x z := List.lt_trans h h'
theorem sl_tri {x y : Str} (h : ¬ sl x y) (h' : ¬ sl y x) : x = y := str_eq (List.le_antisymm (List.not_lt.mp h') (List.not_lt.mp h))
theorem sl_asymm {x y : Str} (h : sl x y) : ¬ sl y x := fun h' => sl_irr _ (sl_trans h h')
theorem sl_ne {x y : Str} (h : sl x y) : x ≠ y := fun z => by rw [z] at h; exact sl_irr _ h
theorem pl_irr (p : Str × Str) : ¬ pl p p := by unfold pl; rw [if_pos rfl]; exact sl_irr _
theorem pl_trans {p q r : Str × Str} (h : pl p q) (h' : pl q r) : pl p r := by
  unfold pl at *
  by_cases e1 : p.1 = q.1
  · rw [if_pos e1] at h
    by_cases e2 : q.1 = r.1
    · rw [if_pos e2] at h'
      rw [if_pos (e1.trans e2)]
      exact sl_trans h h'
    · rw [if_neg e2] at h'
      rw [if_neg (fun z => e2 (e1.symm.trans z)), e1]
      exact h'
  · rw [if_neg e1] at h
    by_cases e2 : q.1 = r.1
    · rw [if_neg (fun z => e1 (z.trans e2.symm)), ← e2]
      exact h
    · rw [if_neg e2] at h'
      have h2 := sl_trans h h'
      rw [if_neg (sl_ne h2)]
      exact h2
theorem pl_tri {p q : Str × Str} (h : ¬ pl p q) (h' : ¬ pl q p) : p = q := by
  unfold pl at *
  by_cases e : p.1 = q.1
  · rw [if_pos e] at h
    rw [if_pos e.symm] at h'
    exact Prod.ext e (sl_tri h h')
  · rw [if_neg e] at h
    rw [if_neg fun z => e z.symm] at h'
    exact absurd (sl_tri h h') e
theorem lt_str (x y : Str) : W.dataLt (.str x) (.str y) = decide (sl x y) := W.dataLt_str x y
theorem lt_P (p q : Str × Str) : W.dataLt (gP p) (gP q) = decide (pl p q) := by
  show W.dataLt (.tuple [.str p.1, .str p.2]) (.tuple [.str q.1, .str q.2]) = _
  rw [W.dataLt_pair (by simp [W.alike]) (by simp [W.alike]), lt_str, lt_str]
  unfold pl
  have e1 : PyData.eqv (.str p.1) (.str q.1) = decide (p.1 = q.1) := emb_str.eq ..
  have e2 : PyData.eqv (.str p.2) (.str q.2) = decide (p.2 = q.2) := emb_str.eq ..
  rw [e1, e2]
  by_cases h1 : p.1 = q.1
  · simp only [h1, decide_true, if_true]
    by_cases h2 : p.2 = q.2
    · simp [h2, sl_irr]
    · simp [h2]
  · simp [h1]
@[simp] theorem ord_str (x y : Str) : ordD .lt (.str x) (.str y) = some (decide (sl x y)) := by
  unfold ordD
  have e : (D.str x).py = some (.str x) := rfl
  have e' : (D.str y).py = some (.str y) := rfl
  rw [e, e']
  dsimp only
  rw [if_pos ⟨by simp [W.alike], by simp [PyData.depth], rfl⟩]
  exact congrArg some (lt_str x y)
@[simp] theorem ord_P (p q : Str × Str) : ordD .lt (dP p) (dP q) = some (decide (pl p q)) := by
  unfold ordD
  rw [emb_P.py p, emb_P.py q]
  dsimp only
  rw [if_pos ⟨by simp [gP, W.alike, W.alikeAll], by have := emb_P.dp p; omega, rfl⟩]
  exact congrArg some (lt_P p q)
/-! ### sorting -/
theorem dle_trans (k : D → PyData) (a b c : D) : W.dataLe false k a b = true → W.dataLe false k b c = true → W.dataLe false k a c = true := (W.sortLe_total _ _ _).trans a b c
theorem dle_total (k : D → PyData) (a b : D) : (W.dataLe false k a b || W.dataLe false k b a) = true := Bool.or_eq_true_iff.mpr ((W.sortLe_total _ _ _).total a b)
theorem sort_gen {α : Type} {e : α → D} {g : α → PyData} (hp : ∀ a, pyD (e a) = g a) (xs : List α) : ∃ zs : List α, (xs.map e).mergeSort (W.dataLe false pyD) = zs.map e ∧ zs.Perm xs ∧ zs.Pairwise fun a b => W.dataLt (g b) (g a) = false := by
  have perm := List.mergeSort_perm (xs.map e) (W.dataLe false pyD)
  have pw := List.pairwise_mergeSort (le := W.dataLe false pyD) (dle_trans pyD) (dle_total pyD) (xs.map e)
  generalize (xs.map e).mergeSort (W.dataLe false pyD) = ys at perm pw
  have lift : ∀ {l : List D} {xs : List α}, l.Perm (xs.map e) → ∃ zs : List α, l = zs.map e ∧ zs.Perm xs := by
    intro l
    induction l with
    | nil => intro xs h; exact ⟨[], rfl, by have := h.length_eq; cases xs with | nil => exact .nil | cons a b => simp at this⟩
    | cons d l ih =>
      intro xs h
      have hm : d ∈ xs.map e := h.mem_iff.mp (List.mem_cons_self ..)
      obtain ⟨a, ha, rfl⟩ := List.mem_map.mp hm
      obtain ⟨s, t, rfl⟩ := List.append_of_mem ha
      have h1 : (e a :: l).Perm (e a :: (s ++ t).map e) := h.trans (by rw [List.map_append, List.map_append, List.map_cons]; exact List.perm_middle)
      obtain ⟨zs, rfl, hz⟩ := ih (List.Perm.cons_inv h1)
      exact ⟨a :: zs, rfl, (List.Perm.cons a hz).trans List.perm_middle.symm⟩
  obtain ⟨zs, rfl, hz⟩ := lift perm
  refine ⟨zs, rfl, hz, ?_⟩
  rw [List.pairwise_map] at pw
  refine pw.imp fun {a b} h => ?_
  have h : (!W.dataLt (pyD (e b)) (pyD (e a))) = true := h
  rw [hp, hp] at h
  simpa using h
theorem sort_strs (xs : List Str) (hl : xs.length ≤ SL) : ∃ zs : List Str, sortL (xs.map D.str) = some (zs.map D.str) ∧ zs.Perm xs ∧ zs.Pairwise fun a b => ¬ sl b a := by
  obtain ⟨zs, e, p, w⟩ := sort_gen (e := D.str) (g := PyData.str) (fun _ => rfl) xs
  refine ⟨zs, ?_, p, w.imp fun {a b} h => by rw [lt_str] at h; simpa using h⟩
  unfold sortL
  rw [emb_str.pyL]
  dsimp only
  have c1 : alikeB (xs.map PyData.str) = true := by simp [alikeB, W.alike]
  have c2 : (xs.map PyData.str).all isFlatK = true := by simp [isFlatK]
  have c3 : PyData.depthAll (xs.map PyData.str) ≤ 60 := by have := emb_str.dpAll xs; omega
  rw [if_pos ⟨c1, .inr c2, c3, by simpa using hl⟩, e]
theorem sort_Ps (xs : List (Str × Str)) (hl : xs.length ≤ SL) : ∃ zs : List (Str × Str), sortL (xs.map dP) = some (zs.map dP) ∧ zs.Perm xs ∧ zs.Pairwise fun a b => ¬ pl b a := by
  obtain ⟨zs, e, p, w⟩ := sort_gen (e := dP) (g := gP) (fun a => by unfold pyD; rw [emb_P.py]; rfl) xs
  refine ⟨zs, ?_, p, w.imp fun {a b} h => by rw [lt_P] at h; simpa using h⟩
  unfold sortL
  rw [emb_P.pyL]
  dsimp only
  have c1 : alikeB (xs.map gP) = true := by simp [alikeB, gP, W.alike, W.alikeAll]
  have c2 : (xs.map gP).all isTupC = true := by simp [isTupC, gP]
  have c3 : PyData.depthAll (xs.map gP) ≤ 60 := by have := emb_P.dpAll xs; omega
  rw [if_pos ⟨c1, .inl c2, c3, by simpa using hl⟩, e]
/-- sorted and unlike: ascending -/
theorem asc_of {α : Type} {r : α → α → Prop} (tri : ∀ {x y : α}, ¬ r x y → ¬ r y x → x = y) {xs : List α} (h : xs.Pairwise fun a b => ¬ r b a) (nd : xs.Nodup) : xs.Pairwise r := by
  refine List.Pairwise.imp ?_ (h.and nd)
  rintro a b ⟨h1, h2⟩
  exact Classical.byContradiction fun z => h2 (tri z h1)
end Hr
end Fl
set_option Elab.async false
set_option linter.all false
set_option maxRecDepth 100000
set_option maxHeartbeats 0
/-! Layer H, part 2: rules by constructs. -/
namespace Fl
namespace Hr
open PySem PySem.Spec PyProof.Rows L2
/-- a block, a loop: not to be opened by simp -/
def compG (P : PI) (call : Call) (own tg : List Nat) (many : Bool) (c e : E) (xs : List D) (ρ : Env) : R RV := compF own tg many (den P call c) (den P call e) xs ρ
def forG (P : PI) (call : Call) (tg : List Nat) (many : Bool) (b : S) (xs : List D) (ρ : Env) : O := forRun tg many (denS P call b) xs ρ
def whlG (P : PI) (call : Call) (c : E) (b : S) (ρ : Env) : O := whlRun (den P call c).t (denS P call b) P.turns ρ
@[simp] theorem forG_nil (P : PI) (call : Call) (tg : List Nat) (many : Bool) (b : S) (ρ : Env) : forG P call tg many b [] ρ = .nx ρ := (rfl)
@[simp] theorem vDen_v (f : Env → R RV) : (vDen f).v = f := (rfl)
@[simp] theorem vDen_t (f : Env → R RV) (ρ : Env) : (vDen f).t ρ = (f ρ).bind fun r ρ1 => R.opt ((view ρ1 r).bind truth) ρ1 := (rfl)
@[simp] theorem op1_v (a : Den) (g : D → Option RV) (ρ : Env) : (op1 a g).v ρ = (a.v ρ).bind fun r ρ1 => R.opt ((view ρ1 r).bind g) ρ1 := (rfl)
@[simp] theorem op1_t (a : Den) (g : D → Option RV) (ρ : Env) : (op1 a g).t ρ = ((a.v ρ).bind fun r ρ1 => R.opt ((view ρ1 r).bind g) ρ1).bind fun r ρ1 => R.opt ((view ρ1 r).bind truth) ρ1 := (rfl)
@[simp] theorem op2_v (a b : Den) (g : D → D → Option RV) (ρ : Env) : (op2 a b g).v ρ = (a.v ρ).bind fun r ρ1 => (b.v ρ1).bind fun q ρ2 => R.opt ((view ρ2 r).bind fun x => (view ρ2 q).bind fun y => g x y) ρ2 := (rfl)
@[simp] theorem op2_t (a b : Den) (g : D → D → Option RV) (ρ : Env) : (op2 a b g).t ρ = ((a.v ρ).bind fun r ρ1 => (b.v ρ1).bind fun q ρ2 => R.opt ((view ρ2 r).bind fun x => (view ρ2 q).bind fun y => g x y) ρ2).bind fun r ρ1 => R.opt ((view ρ1 r).bind truth) ρ1 := (rfl)
@[simp] theorem opL_v (a : Den) (g : List D → Option RV) (ρ : Env) : (opL a g).v ρ = (a.l ρ).bind fun rs ρ1 => R.opt ((views ρ1 rs).bind g) ρ1 := (rfl)
@[simp] theorem opL_t (a : Den) (g : List D → Option RV) (ρ : Env) : (opL a g).t ρ = ((a.l ρ).bind fun rs ρ1 => R.opt ((views ρ1 rs).bind g) ρ1).bind fun r ρ1 => R.opt ((view ρ1 r).bind truth) ρ1 := (rfl)
theorem callN_of {P : PI} {call : Call} {f : Nat} (h : P.byRef f 0 = false) (rs : List RV) (ρ : Env) : callingN P call f rs ρ = calling P call f [] rs ρ := by
  unfold callingN
  split
  · rw [h]; rfl
  · rfl
theorem callN_data {P : PI} {call : Call} {f : Nat} (nb : ∀ j, P.byRef f j = false) (rs : List RV) (ρ : Env) : callingN P call f rs ρ = (toDs rs ρ).bind fun ds ρ1 => callD ρ1 (call f [] (ds.map SV.d)) := by
  rw [callN_of (nb 0), calling_data nb]
theorem callN_sl (P : PI) (call : Call) (f : Nat) (i : Nat) (rs : List RV) (ρ : Env) : callingN P call f (.sl i :: rs) ρ = calling P call f [] (.sl i :: rs) ρ := by cases rs <;> rfl
theorem callN_new {P : PI} {call : Call} {f : Nat} (h : P.byRef f 0 = true) (o : MO) (ρ : Env) : callingN P call f [.n o] ρ = callD ρ (call f [] [.m false o]) := by
  show (if P.byRef f 0 = true then _ else _) = _
  rw [if_pos h]
  cases call f [] [.m false o] <;> rfl
theorem runC_s {P : PI} {cd : Nat → Option Code} {f np nc ns : Nat} {b : S} (h : cd f = some ⟨np, nc, ns, b⟩) (n : Nat) (caps : List D) (args : List SV) : runC P cd (n + 1) f caps args = if args.length = np ∧ caps.length = nc then leave np (denS P (runC P cd n) b (entry ⟨np, nc, ns, b⟩ caps args)) else .bad := by
  show (match cd f with
    | none => CO.bad
    | some c => if args.length = c.np ∧ caps.length = c.nc then leave c.np (denS P (runC P cd n) c.body (entry c caps args)) else .bad) = _
  rw [h]
@[simp] theorem leave_nx (np : Nat) (ρ : Env) : leave np (.nx ρ) = .ok (.d .non) (outs np ρ) := (rfl)
@[simp] theorem leave_rt (np : Nat) (r : RV) (ρ : Env) : leave np (.rt r ρ) = .ok r (outs np ρ) := (rfl)
@[simp] theorem view_m (ρ : Env) (i : Nat) (w : Bool) (o : MO) (h : ρ[i]? = some (some (.m w o))) : view ρ (.sl i) = some (fz o) := by
  unfold view
  dsimp only
  rw [h]
@[simp] theorem den_k (P : PI) (call : Call) (d : D) : den P call (.k d) = vDen fun ρ => .ok (.d d) ρ := (rfl)
@[simp] theorem den_v (P : PI) (call : Call) (i : Nat) : den P call (.v i) = vDen fun ρ => match ρ[i]? with
    | some (some (.d v)) => .ok (.d v) ρ
    | some (some (.m _ _)) => .ok (.sl i) ρ
    | _ => .bad := (rfl)
@[simp] theorem den_nil (P : PI) (call : Call)  : den P call (.nil) = ⟨fun _ => .bad, fun ρ => .ok true ρ, fun ρ => .ok [] ρ⟩ := (rfl)
@[simp] theorem den_cons (P : PI) (call : Call) (a r : E) : den P call (.cons a r) = ⟨fun _ => .bad, fun _ => .bad, fun ρ => ((den P call a).v ρ).bind fun x ρ1 => ((den P call r).l ρ1).bind fun xs ρ2 => .ok (x :: xs) ρ2⟩ := (rfl)
@[simp] theorem den_tup (P : PI) (call : Call) (l : E) : den P call (.tup l) = vDen fun ρ => ((den P call l).l ρ).bind fun rs ρ1 => (toDs rs ρ1).bind fun ds ρ2 => if ds.length ≤ SL then .ok (.d (.tup ds)) ρ2 else .bad := (rfl)
@[simp] theorem den_lst (P : PI) (call : Call) (l : E) : den P call (.lst l) = vDen fun ρ => ((den P call l).l ρ).bind fun rs ρ1 => (toDs rs ρ1).bind fun ds ρ2 => if ds.length ≤ SL then .ok (.n (.l ds)) ρ2 else .bad := (rfl)
@[simp] theorem den_dnew (P : PI) (call : Call)  : den P call (.dnew) = vDen fun ρ => .ok (.n (.k [])) ρ := (rfl)
@[simp] theorem den_dsp (P : PI) (call : Call) (k v : E) : den P call (.dsp k v) = vDen fun ρ => ((den P call k).v ρ).bind fun r ρ1 => (toD r ρ1).bind fun d ρ2 => ((den P call v).v ρ2).bind fun q ρ3 => (toD q ρ3).bind fun e ρ4 => match d.key with
    | some x => .ok (.n (.k [(x, e)])) ρ4
    | none => .bad := (rfl)
@[simp] theorem den_bin (P : PI) (call : Call) (op : Operator) (a b : E) : den P call (.bin op a b) = op2 (den P call a) (den P call b) (bins op) := (rfl)
@[simp] theorem den_un (P : PI) (call : Call) (op : UnaryOp) (a : E) : den P call (.un op a) = op1 (den P call a) (uns op) := (rfl)
@[simp] theorem den_cmp (P : PI) (call : Call) (op : CmpOp) (a b : E) : den P call (.cmp op a b) = vDen fun ρ => ((den P call a).v ρ).bind fun r ρ1 => ((den P call b).v ρ1).bind fun q ρ2 => match op, view ρ2 r with
    | .Eq, some (.ins C fs) => (match (P.ci C).eq, view ρ2 q with
      | some f, some (.ins C' _) => if C' = C then (calling P call f [] [r, q] ρ2).bind fun r ρ3 => (match asBl r with
        | some k => .ok (.d (.bl k)) ρ3
        | none => .bad) else .bad
      | _, _ => .bad)
    | op, some x => R.opt ((view ρ2 q).bind fun y => (cmps op x y).map fun b => .d (.bl b)) ρ2
    | _, none => .bad := (rfl)
@[simp] theorem den_cmp2 (P : PI) (call : Call) (op op2 : CmpOp) (a b c : E) : den P call (.cmp2 op op2 a b c) = vDen fun ρ => ((den P call a).v ρ).bind fun r ρ1 => ((den P call b).v ρ1).bind fun q ρ2 =>
    match (view ρ2 r).bind fun x => (view ρ2 q).bind fun y => cmps op x y with
    | some true => ((den P call c).v ρ2).bind fun p ρ3 => R.opt ((view ρ3 q).bind fun x => (view ρ3 p).bind fun y => (cmps op2 x y).map fun b => .d (.bl b)) ρ3
    | some false => .ok (.d (.bl false)) ρ2
    | none => .bad := (rfl)
@[simp] theorem den_and (P : PI) (call : Call) (a b : E) : den P call (.and a b) = { vDen (fun ρ => ((den P call a).v ρ).bind fun r ρ1 => match asBl r with
      | some true => (den P call b).v ρ1
      | some false => .ok (.d (.bl false)) ρ1
      | none => .bad) with
    t := fun ρ => ((den P call a).t ρ).bind fun x ρ1 => match x with
      | true => (den P call b).t ρ1
      | false => .ok false ρ1 } := (rfl)
@[simp] theorem den_or (P : PI) (call : Call) (a b : E) : den P call (.or a b) = { vDen (fun ρ => ((den P call a).v ρ).bind fun r ρ1 => match asBl r with
      | some false => (den P call b).v ρ1
      | some true => .ok (.d (.bl true)) ρ1
      | none => .bad) with
    t := fun ρ => ((den P call a).t ρ).bind fun x ρ1 => match x with
      | false => (den P call b).t ρ1
      | true => .ok true ρ1 } := (rfl)
@[simp] theorem den_not (P : PI) (call : Call) (a : E) : den P call (.not a) = { vDen (fun ρ => ((den P call a).v ρ).bind fun r ρ1 => match asBl r with
      | some x => .ok (.d (.bl (!x))) ρ1
      | none => .bad) with
    t := fun ρ => ((den P call a).t ρ).bind fun x ρ1 => .ok (!x) ρ1 } := (rfl)
@[simp] theorem den_ite (P : PI) (call : Call) (c a b : E) : den P call (.ite c a b) = { vDen (fun ρ => ((den P call c).t ρ).bind fun x ρ1 => match x with
      | true => (den P call a).v ρ1
      | false => (den P call b).v ρ1) with
    t := fun ρ => ((den P call c).t ρ).bind fun x ρ1 => match x with
      | true => (den P call a).t ρ1
      | false => (den P call b).t ρ1 } := (rfl)
@[simp] theorem den_ix (P : PI) (call : Call) (a i : E) : den P call (.ix a i) = op2 (den P call a) (den P call i) fun x y => (ixs x y).map .d := (rfl)
@[simp] theorem den_sl (P : PI) (call : Call) (a lo hi : E) : den P call (.sl a lo hi) = vDen fun ρ => ((den P call a).v ρ).bind fun r ρ1 => (partOf (isNil lo) (den P call lo) ρ1).bind fun i ρ2 => (partOf (isNil hi) (den P call hi) ρ2).bind fun j ρ3 => R.opt ((view ρ3 r).bind fun x => sls x i j) ρ3 := (rfl)
@[simp] theorem den_call (P : PI) (call : Call) (f : Nat) (l : E) : den P call (.call f l) = vDen fun ρ => ((den P call l).l ρ).bind fun rs ρ1 => callingN P call f rs ρ1 := (rfl)
@[simp] theorem den_callK (P : PI) (call : Call) (f na nk : Nat) (l ks : E) (p : List Nat) : den P call (.callK f na nk l ks p) = vDen fun ρ => ((den P call l).l ρ).bind fun rs ρ1 => ((den P call ks).l ρ1).bind fun qs ρ2 => if rs.length = na ∧ qs.length = nk then
    match pick (rs ++ qs) p with
    | some xs => calling P call f [] xs ρ2
    | none => .bad
  else .bad := (rfl)
@[simp] theorem den_callL (P : PI) (call : Call) (f : Nat) (l : E) (g : Nat) (cs : List Nat) (L : LI) : den P call (.callL f l g cs L) = vDen fun ρ => ((den P call l).l ρ).bind fun rs ρ1 => match capsOf ρ1 cs with
    | some vs => calling P (fun f caps as => flatCO (call f caps as)) f [] (rs ++ [.d (.fn g vs)]) ρ1
    | none => .bad := (rfl)
@[simp] theorem den_app (P : PI) (call : Call) (i : Nat) (l : E) : den P call (.app i l) = vDen fun ρ => match ρ[i]? with
    | some (some (.d (.fn _ _))) => ((den P call l).l ρ).bind fun rs ρ1 => (match ρ1[i]? with
      | some (some (.d (.fn g cs))) => if flatL cs = true then calling P (fun f caps as => if as.all flatSV = true then flatCO (call f caps as) else .bad) g cs rs ρ1 else .bad
      | _ => .bad)
    | _ => .bad := (rfl)
@[simp] theorem den_new (P : PI) (call : Call) (C f : Nat) (l : E) : den P call (.new C f l) = vDen fun ρ => ((den P call l).l ρ).bind fun rs ρ1 => newing P call C f rs ρ1 := (rfl)
@[simp] theorem den_att (P : PI) (call : Call) (o : E) (f : Nat) : den P call (.att o f) = vDen fun ρ => ((den P call o).v ρ).bind fun r ρ1 => match view ρ1 r with
    | some (.ins C fs) => (match (P.ci C).props.lookup f with
      | some g => noEx (calling P call g [] [r] ρ1)
      | none => if (P.ci C).flds.contains f then R.opt ((fs.lookup f).map .d) ρ1 else .bad)
    | _ => .bad := (rfl)
@[simp] theorem den_blt (P : PI) (call : Call) (b : Bl) (l : E) : den P call (.blt b l) = opL (den P call l) (blt b) := (rfl)
@[simp] theorem den_mth (P : PI) (call : Call) (m : Mt) (o l : E) : den P call (.mth m o l) = vDen fun ρ => ((den P call o).v ρ).bind fun r ρ1 => match view ρ1 r with
    | some (.str x) => ((den P call l).l ρ1).bind fun rs ρ2 => R.opt ((views ρ2 rs).bind fun ys => mth m (.str x) ys) ρ2
    | _ => .bad := (rfl)
@[simp] theorem den_mthM (P : PI) (call : Call) (m : Mt) (i : Nat) (l : E) : den P call (.mthM m i l) = vDen fun ρ => match ρ[i]? with
    | some (some (.m _ (.l _))) => ((den P call l).l ρ).bind fun rs ρ1 => (toDs rs ρ1).bind fun ds ρ2 => (match ρ2[i]? with
      | some (some (.m w o)) => (match mthM m o ds with
        | some (r, o') => .ok r (ρ2.set i (some (.m w o')))
        | none => .bad)
      | _ => .bad)
    | _ => .bad := (rfl)
@[simp] theorem den_comp (P : PI) (call : Call) (e : E) (tg : List Nat) (many : Bool) (it : Itk) (src c : E) (own : List Nat) : den P call (.comp e tg many it src c own) = vDen fun ρ => ((((den P call src).l ρ).bind toDs).bind fun ds ρ1 => R.opt (iter it ds) ρ1).bind fun xs ρ2 => compG P call own tg many c e xs ρ2 := (rfl)
@[simp] theorem den_fstr (P : PI) (call : Call) (l : E) : den P call (.fstr l) = vDen fun ρ => (noEx ((den P call l).l ρ)).bind fun rs ρ1 => match strsR rs with
    | some z => if z.length ≤ SL then .ok (.d (.str z)) ρ1 else .bad
    | none => .bad := (rfl)
@[simp] theorem den_fv (P : PI) (call : Call) (a : E) : den P call (.fv a) = op1 (den P call a) fvF := (rfl)
@[simp] theorem denS_nil (P : PI) (call : Call)  (ρ : Env) : denS P call (.nil) ρ = .nx ρ := (rfl)
@[simp] theorem denS_cons (P : PI) (call : Call) (s r : S) (ρ : Env) : denS P call (.cons s r) ρ = match denS P call s ρ with
    | .nx ρ1 => denS P call r ρ1
    | o => o := (rfl)
@[simp] theorem denS_asg (P : PI) (call : Call) (i : Nat) (e : E) (ρ : Env) : denS P call (.asg i e) ρ = ((den P call e).v ρ).toO fun r ρ1 => O.of ((svOf r).bind fun v => setS i v ρ1) := (rfl)
@[simp] theorem denS_asgT (P : PI) (call : Call) (ts : List T1) (e : E) (ρ : Env) : denS P call (.asgT ts e) ρ = ((den P call e).v ρ).toO fun r ρ1 => (match view ρ1 r with
      | some (.tup xs) => if xs.length = (ts.map (t1Den P call)).length then (stT (ts.map (t1Den P call)) xs ρ1).toO fun _ ρ2 => .nx ρ2 else .bad
      | some (.tk xs) => if xs.length = (ts.map (t1Den P call)).length then (stT (ts.map (t1Den P call)) xs ρ1).toO fun _ ρ2 => .nx ρ2 else .bad
      | _ => .bad) := (rfl)
@[simp] theorem denS_par (P : PI) (call : Call) (is : List Nat) (es : E) (ρ : Env) : denS P call (.par is es) ρ = ((den P call es).l ρ).toO fun rs ρ1 => O.of (parAll is rs ρ1) := (rfl)
@[simp] theorem denS_put (P : PI) (call : Call) (i : Nat) (x e : E) (ρ : Env) : denS P call (.put i x e) ρ = ((den P call e).v ρ).toO fun r ρ1 => (toD r ρ1).toO fun v ρ2 => match ρ2[i]? with
      | some (some (.m _ _)) => ((den P call x).v ρ2).toO fun q ρ3 => (toD q ρ3).toO fun y ρ4 => O.of (putS i y v ρ4)
      | _ => .bad := (rfl)
@[simp] theorem denS_fset (P : PI) (call : Call) (i f : Nat) (e : E) (ρ : Env) : denS P call (.fset i f e) ρ = ((den P call e).v ρ).toO fun r ρ1 => (toD r ρ1).toO fun d ρ2 => match ρ2[i]? with
    | some (some (.m w (.i C fs))) => if fs.length < 1000 ∧ (P.ci C).flds.contains f = true then .nx (ρ2.set i (some (.m w (.i C (putF1 f d fs))))) else .bad
    | _ => .bad := (rfl)
@[simp] theorem denS_exp (P : PI) (call : Call) (e : E) (ρ : Env) : denS P call (.exp e) ρ = ((den P call e).v ρ).toO fun _ ρ1 => .nx ρ1 := (rfl)
@[simp] theorem denS_ret (P : PI) (call : Call) (e : E) (ρ : Env) : denS P call (.ret e) ρ = ((den P call e).v ρ).toO fun r ρ1 => retF r ρ1 := (rfl)
@[simp] theorem denS_retN (P : PI) (call : Call)  (ρ : Env) : denS P call (.retN) ρ = .rt (.d .non) ρ := (rfl)
@[simp] theorem denS_ite (P : PI) (call : Call) (c : E) (a b : S) (ρ : Env) : denS P call (.ite c a b) ρ = ((den P call c).t ρ).toO fun x ρ1 => match x with
    | true => denS P call a ρ1
    | false => denS P call b ρ1 := (rfl)
@[simp] theorem denS_for_ (P : PI) (call : Call) (tg : List Nat) (many : Bool) (it : Itk) (src : E) (body : S) (ρ : Env) : denS P call (.for_ tg many it src body) ρ = ((((den P call src).l ρ).bind toDs).bind fun ds ρ1 => R.opt (iter it ds) ρ1).toO fun xs ρ1 => forG P call tg many body xs ρ1 := (rfl)
@[simp] theorem denS_whl (P : PI) (call : Call) (c : E) (body : S) (ρ : Env) : denS P call (.whl c body) ρ = whlG P call c body ρ := (rfl)
@[simp] theorem denS_pass (P : PI) (call : Call)  (ρ : Env) : denS P call (.pass) ρ = .nx ρ := (rfl)
@[simp] theorem denS_brk (P : PI) (call : Call)  (ρ : Env) : denS P call (.brk) ρ = .bk ρ := (rfl)
@[simp] theorem denS_cnt (P : PI) (call : Call)  (ρ : Env) : denS P call (.cnt) ρ = .ct ρ := (rfl)
@[simp] theorem denS_never (P : PI) (call : Call)  (ρ : Env) : denS P call (.never) ρ = .bad := (rfl)
/-! ### step by step -/
theorem seq_nx {P : PI} {call : Call} {s r : S} {ρ ρ1 : Env} (h : denS P call s ρ = .nx ρ1) : denS P call (.cons s r) ρ = denS P call r ρ1 := by rw [denS_cons, h]
theorem seq_rt {P : PI} {call : Call} {s r : S} {v : RV} {ρ ρ1 : Env} (h : denS P call s ρ = .rt v ρ1) : denS P call (.cons s r) ρ = .rt v ρ1 := by rw [denS_cons, h]
theorem ite_t {P : PI} {call : Call} {c : E} {a b : S} {ρ ρ1 : Env} (h : (den P call c).t ρ = .ok true ρ1) : denS P call (.ite c a b) ρ = denS P call a ρ1 := by rw [denS_ite, h]; rfl
theorem ite_f {P : PI} {call : Call} {c : E} {a b : S} {ρ ρ1 : Env} (h : (den P call c).t ρ = .ok false ρ1) : denS P call (.ite c a b) ρ = denS P call b ρ1 := by rw [denS_ite, h]; rfl
theorem asg_ok {P : PI} {call : Call} {i : Nat} {e : E} {ρ ρ1 ρ2 : Env} {r : RV} {v : SV} (h : (den P call e).v ρ = .ok r ρ1) (h1 : svOf r = some v) (h2 : setS i v ρ1 = some ρ2) : denS P call (.asg i e) ρ = .nx ρ2 := by rw [denS_asg, h]; show O.of ((svOf r).bind _) = _; rw [h1]; show O.of (setS i v ρ1) = _; rw [h2]; rfl
theorem ret_d {P : PI} {call : Call} {e : E} {ρ ρ1 : Env} {v : D} (h : (den P call e).v ρ = .ok (.d v) ρ1) : denS P call (.ret e) ρ = .rt (.d v) ρ1 := by rw [denS_ret, h]; rfl
theorem ret_n {P : PI} {call : Call} {e : E} {ρ ρ1 : Env} {o : MO} (h : (den P call e).v ρ = .ok (.n o) ρ1) : denS P call (.ret e) ρ = .rt (.n o) ρ1 := by rw [denS_ret, h]; rfl
theorem exp_ok {P : PI} {call : Call} {e : E} {ρ ρ1 : Env} {r : RV} (h : (den P call e).v ρ = .ok r ρ1) : denS P call (.exp e) ρ = .nx ρ1 := by rw [denS_exp, h]; rfl
/-- a body's run -/
theorem run_rt {P : PI} {cd : Nat → Option Code} {f np nc ns : Nat} {b : S} (h : cd f = some ⟨np, nc, ns, b⟩) {n : Nat} {caps : List D} {args : List SV} {r : RV} {ρ : Env} (hl : args.length = np ∧ caps.length = nc) (e : denS P (runC P cd n) b (entry ⟨np, nc, ns, b⟩ caps args) = .rt r ρ) : runC P cd (n + 1) f caps args = .ok r (outs np ρ) := by rw [runC_s h, if_pos hl, e]; rfl
theorem run_nx {P : PI} {cd : Nat → Option Code} {f np nc ns : Nat} {b : S} (h : cd f = some ⟨np, nc, ns, b⟩) {n : Nat} {caps : List D} {args : List SV} {ρ : Env} (hl : args.length = np ∧ caps.length = nc) (e : denS P (runC P cd n) b (entry ⟨np, nc, ns, b⟩ caps args) = .nx ρ) : runC P cd (n + 1) f caps args = .ok (.d .non) (outs np ρ) := by rw [runC_s h, if_pos hl, e]; rfl
theorem vite_t {P : PI} {call : Call} {c a b : E} {ρ ρ1 : Env} (h : (den P call c).t ρ = .ok true ρ1) : (den P call (.ite c a b)).v ρ = (den P call a).v ρ1 := by
  rw [den_ite]
  show ((den P call c).t ρ).bind (fun x ρ1 => match x with
      | true => (den P call a).v ρ1
      | false => (den P call b).v ρ1) = _
  rw [h]
  rfl
theorem vite_f {P : PI} {call : Call} {c a b : E} {ρ ρ1 : Env} (h : (den P call c).t ρ = .ok false ρ1) : (den P call (.ite c a b)).v ρ = (den P call b).v ρ1 := by
  rw [den_ite]
  show ((den P call c).t ρ).bind (fun x ρ1 => match x with
      | true => (den P call a).v ρ1
      | false => (den P call b).v ρ1) = _
  rw [h]
  rfl
theorem or_t {P : PI} {call : Call} {a b : E} {ρ ρ1 : Env} (h : (den P call a).t ρ = .ok true ρ1) : (den P call (.or a b)).t ρ = .ok true ρ1 := by
  rw [den_or]
  show ((den P call a).t ρ).bind (fun x ρ1 => match x with
      | false => (den P call b).t ρ1
      | true => .ok true ρ1) = _
  rw [h]
  rfl
theorem or_f {P : PI} {call : Call} {a b : E} {ρ ρ1 : Env} (h : (den P call a).t ρ = .ok false ρ1) : (den P call (.or a b)).t ρ = (den P call b).t ρ1 := by
  rw [den_or]
  show ((den P call a).t ρ).bind (fun x ρ1 => match x with
      | false => (den P call b).t ρ1
      | true => .ok true ρ1) = _
  rw [h]
  rfl
theorem and_t {P : PI} {call : Call} {a b : E} {ρ ρ1 : Env} (h : (den P call a).t ρ = .ok true ρ1) : (den P call (.and a b)).t ρ = (den P call b).t ρ1 := by
  rw [den_and]
  show ((den P call a).t ρ).bind (fun x ρ1 => match x with
      | true => (den P call b).t ρ1
      | false => .ok false ρ1) = _
  rw [h]
  rfl
theorem and_f {P : PI} {call : Call} {a b : E} {ρ ρ1 : Env} (h : (den P call a).t ρ = .ok false ρ1) : (den P call (.and a b)).t ρ = .ok false ρ1 := by
  rw [den_and]
  show ((den P call a).t ρ).bind (fun x ρ1 => match x with
      | true => (den P call b).t ρ1
      | false => .ok false ρ1) = _
  rw [h]
  rfl
theorem not_t {P : PI} {call : Call} {a : E} {ρ ρ1 : Env} {k : Bool} (h : (den P call a).t ρ = .ok k ρ1) : (den P call (.not a)).t ρ = .ok (!k) ρ1 := by
  rw [den_not]
  show ((den P call a).t ρ).bind (fun x ρ1 => .ok (!x) ρ1) = _
  rw [h]
  rfl
end Hr
end Fl
set_option Elab.async false
set_option linter.all false
set_option maxRecDepth 100000
set_option maxHeartbeats 0
/-! Layer H, part 3: names, places. -/
namespace Fl
namespace Hr
open PySem PySem.Spec PyProof.Rows L2
theorem cmps_eq (x y : D) : cmps .Eq x y = eqD x y := by cases x <;> cases y <;> rfl
theorem cmps_ne (x y : D) : cmps .NotEq x y = (eqD x y).map (!·) := by cases x <;> cases y <;> rfl
/-! ### letters, names -/
def lowC (c : Nat) : Bool := decide (97 ≤ c) && decide (c ≤ 122)
/-- a word of small letters -/
def isWd (x : Str) : Prop := x.cps.toList ≠ [] ∧ ∀ c ∈ x.cps.toList, lowC c = true
def words27 : List Str := ["all", "bridge", "close", "closed", "day", "ear", "in", "no", "none", "of", "open", "out", "place", "places", "plan", "put", "quit", "ring", "street", "streets", "strike", "town", "turn", "undo", "wall", "way", "yes"]
/-- a name -/
structure isNm (x : Str) : Prop where
  wd : isWd x
  len : x.length ≤ 8
  nw : x ∉ words27
abbrev letters : Str := "abcdefghijklmnopqrstuvwxyz"
theorem letter_in : ∀ c : Nat, lowC c = true → memD (.str ⟨#[c]⟩) K_LETTERS = some true := by
  have h : ∀ c ∈ List.range' 97 26, memD (.str ⟨#[c]⟩) K_LETTERS = some true := by decide +kernel
  intro c hc
  unfold lowC at hc
  rw [Bool.and_eq_true, decide_eq_true_eq, decide_eq_true_eq] at hc
  exact h c (List.mem_range'_1.mpr ⟨hc.1, by omega⟩)
theorem memD_words (x : Str) : memD (.str x) K_WORDS = some (decide (x ∈ words27)) := by
  show memL (.str x) (words27.map D.str) = _
  exact emb_str.memL (by omega) x words27
structure ShN (P : PI) (cd : Nat → Option Code) : Prop where
  c6 : cd 6 = some ⟨1, 0, 1, S6⟩
  c8 : cd 8 = some ⟨2, 0, 2, S8⟩
  c9 : cd 9 = some ⟨1, 0, 2, S9⟩
  c10 : cd 10 = some ⟨1, 0, 1, S10⟩
  c11 : cd 11 = some ⟨2, 0, 2, S11⟩
  c12 : cd 12 = some ⟨1, 0, 1, S12⟩
  c13 : cd 13 = some ⟨4, 0, 6, S13⟩
  c14 : cd 14 = some ⟨2, 0, 2, S14⟩
  c15 : ∃ g L, cd 15 = some ⟨1, 0, 1, S15 g L⟩ ∧ cd g = some ⟨2, 0, 2, S15_0⟩ ∧ ∀ j, P.byRef g j = false
  c16 : cd 16 = some ⟨2, 0, 2, S16⟩
  c17 : ∃ g L, cd 17 = some ⟨2, 0, 2, S17 g L⟩ ∧ cd g = some ⟨2, 1, 3, S17_0⟩ ∧ ∀ j, P.byRef g j = false
  nr : ∀ f ∈ [6, 8, 9, 10, 11, 12, 13, 14, 15, 16, 17], ∀ j, P.byRef f j = false
section
variable {P : PI} {cd : Nat → Option Code}
theorem blsOf_map {α : Type} (f : α → Bool) : ∀ (l : List α), blsOf (l.map fun x => .bl (f x)) = some (l.map f)
  | [] => rfl
  | x :: xs => by
    show (match blsOf (xs.map fun x => .bl (f x)) with
      | some is => some (f x :: is)
      | none => none) = _
    rw [blsOf_map f xs]
    rfl
theorem word_ok (s : ShN P cd) (n : Nat) {x : Str} (h : isWd x) (hl : x.length ≤ SL) : runC P cd (n + 1) 9 [] [.d (.str x)] = .ok (.d (.bl true)) [.d .non] := by
  have e1 : eqD (.str x) (.str "") = some false := by
    rw [emb_str.eqD (by omega)]
    have : ¬ x = "" := fun z => h.1 (by rw [z]; rfl)
    simp [this]
  have hc : compG P (runC P cd n) [1] [1] false .nil (.cmp .In (.v 1) (.k K_LETTERS)) (x.cps.toList.map fun c => .str ⟨#[c]⟩) [some (.d (.str x)), none] = .ok (.n (.l (x.cps.toList.map fun _ => .bl true))) [some (.d (.str x)), none] := by
    unfold compG
    rw [compF_pure (fun _ => .bl true) (fun _ => true) (by rfl) (by rw [List.length_map]; exact hl)]
    · rw [List.filter_eq_self.mpr (fun _ _ => rfl), List.map_map]
      rfl
    · intro y hy
      obtain ⟨c, hc, rfl⟩ := List.mem_map.mp hy
      refine ⟨[some (.d (.str x)), some (.d (.str ⟨#[c]⟩))], rfl, rfl, fun _ => ?_, rfl⟩
      simp [cmps, letter_in c (h.2 c hc)]
  rw [runC_s s.c9]
  simp [S9, entry, blt, isFn, isTy, cmps, e1, iter, hc, blsOf_map (fun _ => true)]
theorem name_ok (s : ShN P cd) (n : Nat) {x : Str} (h : isNm x) : runC P cd (n + 2) 10 [] [.d (.str x)] = .ok (.d (.bl true)) [.d .non] := by
  have hl : x.length ≤ SL := Nat.le_trans h.len (by decide)
  have h8 : (x.length : Int) ≤ 8 := by have := h.len; omega
  rw [runC_s s.c10]
  simp [S10, entry, calling_data (s.nr 9 (by simp)), callN_data (s.nr 9 (by simp)), word_ok s n h.wd hl, blt, cmps, memD_words, h.nw, K_MOST_LETTERS, hl, h8]
/-- are_below: of texts, of pairs -/
def belowS (ahead : List Str) (x : Str) : Prop := ∀ y, ahead.getLast? = some y → sl y x
def belowP (ahead : List (Str × Str)) (x : Str × Str) : Prop := ∀ y, ahead.getLast? = some y → pl y x
theorem ix_last {α : Type} (e : α → D) (xs : List α) (y : α) (h : xs.getLast? = some y) : ixs (.tup (xs.map e)) (.int (-1)) = some (e y) := by
  have hne : xs ≠ [] := fun z => by rw [z] at h; cases h
  have hl : 0 < xs.length := List.length_pos_iff.mpr hne
  show atI (xs.map e) (-1) = _
  have e2 : ixN (xs.map e).length (-1) = some (xs.length - 1) := by
    unfold ixN
    rw [if_neg (by decide), List.length_map, if_pos (by omega)]
    congr 1
    omega
  unfold atI
  rw [e2]
  show (xs.map e)[xs.length - 1]? = _
  rw [List.getElem?_map, ← List.getLast?_eq_getElem?, h]
  rfl
theorem below_gen {α : Type} [DecidableEq α] {k : Nat} {e : α → D} {g : α → PyData} (m : Emb k e g) (hk : k ≤ 50) (s : ShN P cd) (n : Nat) (ahead : List α) (x : α) (hb : ∀ y, ahead.getLast? = some y → ordD .lt (e y) (e x) = some true) (ho : ∀ a b, cmps .Lt (e a) (e b) = ordD .lt (e a) (e b)) :
    runC P cd (n + 1) 14 [] [.d (.tup (ahead.map e)), .d (e x)] = .ok (.d (.bl true)) [.d .non, .d .non] := by
  have e1 : eqD (.tup (ahead.map e)) (.tup []) = some (decide (ahead = [])) := m.tup.eqD (by omega) ahead []
  rw [runC_s s.c14]
  cases h : ahead.getLast? with
  | none =>
    have hn : ahead = [] := List.getLast?_eq_none_iff.mp h
    subst hn
    simp at e1
    simp [S14, entry, cmps, e1]
  | some y =>
    have hn : ahead ≠ [] := fun z => by rw [z] at h; cases h
    have hb1 := hb y h
    have hi := ix_last e ahead y h
    have ho1 := ho y x
    rw [hb1] at ho1
    simp [hn] at e1
    have e2 : cmps .Eq (.tup (ahead.map e)) (.tup []) = some false := e1
    simp [S14, entry, e2, uns, hi, ho1]
theorem belowS_ok (s : ShN P cd) (n : Nat) {ahead : List Str} {x : Str} (h : belowS ahead x) : runC P cd (n + 1) 14 [] [.d (dSs ahead), .d (.str x)] = .ok (.d (.bl true)) [.d .non, .d .non] :=
  below_gen emb_str (by omega) s n ahead x (fun y hy => by rw [ord_str, decide_eq_true (h y hy)]) fun _ _ => rfl
theorem belowP_ok (s : ShN P cd) (n : Nat) {ahead : List (Str × Str)} {x : Str × Str} (h : belowP ahead x) : runC P cd (n + 1) 14 [] [.d (dPs ahead), .d (dP x)] = .ok (.d (.bl true)) [.d .non, .d .non] :=
  below_gen emb_P (by omega) s n ahead x (fun y hy => by rw [ord_P, decide_eq_true (h y hy)]) fun _ _ => rfl
end
end Hr
end Fl
set_option Elab.async false
set_option linter.all false
set_option maxRecDepth 100000
set_option maxHeartbeats 0
/-! Layer H, part 4: wrong_in, places, streets. -/
namespace Fl
namespace Hr
open PySem PySem.Spec PyProof.Rows L2
section
variable {P : PI} {cd : Nat → Option Code}
theorem flatL_map {α : Type} (e : α → D) (h : ∀ a, flat (e a) = true) : ∀ xs : List α, flatL (xs.map e) = true
  | [] => rfl
  | x :: xs => by
    show (flat (e x) && flatL (xs.map e)) = true
    rw [h, flatL_map e h xs]
    rfl
@[simp] theorem flat_tupL (xs : List D) : flat (.tup xs) = flatL xs := (rfl)
@[simp] theorem flat_str (x : Str) : flat (.str x) = true := (rfl)
@[simp] theorem flat_int (x : Int) : flat (.int x) = true := (rfl)
@[simp] theorem flat_bl (x : Bool) : flat (.bl x) = true := (rfl)
@[simp] theorem flat_non : flat .non = true := (rfl)
@[simp] theorem flat_lst (xs : List D) : flat (.lst xs) = flatL xs := (rfl)
@[simp] theorem flatL_nil : flatL [] = true := (rfl)
@[simp] theorem flatL_cons (x : D) (xs : List D) : flatL (x :: xs) = (flat x && flatL xs) := (rfl)
@[simp] theorem flatSV_d (v : D) : flatSV (.d v) = flat v := (rfl)
@[simp] theorem flatRV_d (v : D) : flatRV (.d v) = flat v := (rfl)
@[simp] theorem flatRV_n (o : MO) : flatRV (.n o) = flat (fz o) := (rfl)
@[simp] theorem flatCO_ok (r : RV) (as : List SV) : flatCO (.ok r as) = if flatRV r = true ∧ as.all flatSV = true then .ok r as else .bad := (rfl)
theorem enumD_map {α : Type} (e : α → D) : ∀ (k : Nat) (xs : List α), enumD k (xs.map e) = (xs.zipIdx k).map fun p => .tup [.int p.2, e p.1]
  | _, [] => rfl
  | k, x :: xs => by
    show .tup [.int k, e x] :: enumD (k + 1) (xs.map e) = _
    rw [enumD_map e (k + 1) xs]
    rfl
theorem wrong_in_ok (s : ShN P cd) (n : Nat) {α : Type} (e : α → D) (he : ∀ a, flat (e a) = true) (xs : List α) (least most : Int) (g : Nat) (caps : List D) (nb : ∀ j, P.byRef g j = false) (hc : flatL caps = true) (h1 : least ≤ xs.length) (h2 : (xs.length : Int) ≤ most)
    (hr : ∀ (k : Nat) (x : α), xs[k]? = some x → runC P cd n g caps [.d (.tup ((xs.take k).map e)), .d (e x)] = .ok (.d (.bl true)) [.d .non, .d .non]) :
    runC P cd (n + 1) 13 [] [.d (.tup (xs.map e)), .d (.int least), .d (.int most), .d (.fn g caps)] = .ok (.n (.l [])) [.d .non, .d .non, .d .non, .d .non] := by
  have hloop : ∃ ρ', forG P (runC P cd n) [4, 5] true (.cons (.ite (.or (.cmp .Eq (.v 4) (.v 2)) (.not (.app 3 (.cons (.sl (.v 0) (.nil) (.v 4)) (.cons (.v 5) .nil))))) (.cons (.ret (.lst (.cons (.v 4) .nil))) .nil) (.nil)) .nil) (enumD 0 (xs.map e)) [some (.d (.tup (xs.map e))), some (.d (.int least)), some (.d (.int most)), some (.d (.fn g caps)), none, none] = .nx ρ' ∧ outs 4 ρ' = [.d .non, .d .non, .d .non, .d .non] := by
    obtain ⟨ρ', e1, e2⟩ := forRun_inv (tg := [4, 5]) (many := true) (b := denS P (runC P cd n) (.cons (.ite (.or (.cmp .Eq (.v 4) (.v 2)) (.not (.app 3 (.cons (.sl (.v 0) (.nil) (.v 4)) (.cons (.v 5) .nil))))) (.cons (.ret (.lst (.cons (.v 4) .nil))) .nil) (.nil)) .nil))
      (fun l ρ => ∃ k, l = enumD k ((xs.drop k).map e) ∧ (ρ = [some (.d (.tup (xs.map e))), some (.d (.int least)), some (.d (.int most)), some (.d (.fn g caps)), none, none] ∨ ∃ a b, ρ = [some (.d (.tup (xs.map e))), some (.d (.int least)), some (.d (.int most)), some (.d (.fn g caps)), some (.d a), some (.d b)]))
      (enumD 0 (xs.map e)) _ ⟨0, rfl, .inl rfl⟩ (by
        rintro x l ρ ⟨k, hl, hρ⟩
        cases hd : xs.drop k with
        | nil => rw [hd] at hl; cases hl
        | cons y ys =>
          rw [hd] at hl
          have hl : x :: l = .tup [.int k, e y] :: enumD (k + 1) (ys.map e) := hl
          injection hl with hx hl2
          subst hx
          have hy : xs[k]? = some y := by
            have := congrArg (fun z => z[0]?) hd
            simpa using this
          have hk : k < xs.length := (List.getElem?_eq_some_iff.mp hy).1
          have hys : ys = xs.drop (k + 1) := by
            have := congrArg List.tail hd
            rw [List.tail_drop] at this
            exact this.symm
          have e1 : eqD (.int k) (.int most) = some false := by
            rw [emb_int.eqD (by omega)]
            have : ¬ (k : Int) = most := by omega
            simp [this]
          have hcut : cutL (xs.map e) none (some (k : Int)) = (xs.take k).map e := by
            unfold cutL
            rw [HT.sIx_none, HT.sIx_nat, List.drop_zero, List.map_take, List.length_map]
            congr 1
            omega
          have fl := flatL_map e he
          refine ⟨[some (.d (.tup (xs.map e))), some (.d (.int least)), some (.d (.int most)), some (.d (.fn g caps)), some (.d (.int k)), some (.d (e y))], _, ?_, .inl ?_, k + 1, ?_, .inr ⟨.int k, e y, rfl⟩⟩
          · rcases hρ with rfl | ⟨a, b, rfl⟩ <;> rfl
          · simp [-List.map_take, cmps, e1, isNil, partOf, sls, hcut, hc, calling_data nb, callN_data nb, fl, he, hr k y hy]
          · rw [hl2, hys])
    refine ⟨ρ', e1, ?_⟩
    obtain ⟨k, _, h | ⟨a, b, h⟩⟩ := e2 <;> (subst h; rfl)
  obtain ⟨ρ', e1, e2⟩ := hloop
  have hlt : ¬ (xs.length : Int) < least := by omega
  rw [runC_s s.c13]
  simp [S13, entry, blt, isFn, isTy, cmps, hlt, iter, seqOf, e1, e2]
/-- ascending -/
abbrev AscS (xs : List Str) : Prop := xs.Pairwise sl
abbrev AscP (xs : List (Str × Str)) : Prop := xs.Pairwise pl
theorem last_take {α : Type} {r : α → α → Prop} {xs : List α} (h : xs.Pairwise r) {k : Nat} {x y : α} (hx : xs[k]? = some x) (hy : (xs.take k).getLast? = some y) : r y x := by
  have hk : k < xs.length := (List.getElem?_eq_some_iff.mp hx).1
  rw [List.getLast?_eq_getElem?, List.length_take] at hy
  have hm : min k xs.length = k := by omega
  rw [hm] at hy
  have h0 : 0 < k := by
    cases k with
    | zero => simp at hy
    | succ k => omega
  rw [List.getElem?_take] at hy
  rw [if_pos (by omega)] at hy
  obtain ⟨h1, e1⟩ := List.getElem?_eq_some_iff.mp hx
  obtain ⟨h2, e2⟩ := List.getElem?_eq_some_iff.mp hy
  rw [← e1, ← e2]
  exact List.pairwise_iff_getElem.mp h (k - 1) k h2 h1 (by omega)
theorem leave_rtd (np : Nat) (r : RV) (ρ : Env) : leave np (.rt r ρ) = .ok r (outs np ρ) := rfl
theorem places_ok (s : ShN P cd) (n : Nat) (xs : List Str) (hn : ∀ x ∈ xs, isNm x) (ha : AscS xs) (h1 : 1 ≤ xs.length) (h8 : xs.length ≤ 8) : runC P cd (n + 5) 15 [] [.d (dSs xs)] = .ok (.n (.l [])) [.d .non] := by
  obtain ⟨g, L, c15, cg, ng⟩ := s.c15
  have hw : runC P cd (n + 4) 13 [] [.d (dSs xs), .d (.int 1), .d (.int 8), .d (.fn g [])] = .ok (.n (.l [])) [.d .non, .d .non, .d .non, .d .non] := by
    refine wrong_in_ok s (n + 3) D.str (fun _ => rfl) xs 1 8 g [] ng rfl (by omega) (by omega) fun k x hx => ?_
    have hm : x ∈ xs := List.mem_of_getElem? hx
    have hb : belowS (xs.take k) x := fun y hy => last_take ha hx hy
    have q1 := name_ok s n (hn x hm)
    have q2 := belowS_ok s (n + 1) hb
    rw [runC_s cg]
    simp [-List.map_take, S15_0, entry, calling_data (s.nr 10 (by simp)), callN_data (s.nr 10 (by simp)), calling_data (s.nr 14 (by simp)), callN_data (s.nr 14 (by simp)), q1, q2]
  rw [runC_s c15]
  simp [S15, entry, K_MOST_PLACES, capsOf, calling_data (s.nr 13 (by simp)), callN_data (s.nr 13 (by simp)), hw]
theorem isone_ok (s : ShN P cd) (n : Nat) (x : Str) (xs : List Str) : runC P cd (n + 1) 8 [] [.d (.str x), .d (dSs xs)] = .ok (.d (.bl (decide (x ∈ xs)))) [.d .non, .d .non] := by
  have e1 : memD (.str x) (dSs xs) = some (decide (x ∈ xs)) := emb_str.memL (by omega) x xs
  rw [runC_s s.c8]
  simp [S8, entry, blt, isFn, isTy, cmps, e1]
theorem pair_ok (s : ShN P cd) (n : Nat) (a b : D) : runC P cd (n + 2) 12 [] [.d (.tup [a, b])] = .ok (.d (.bl true)) [.d .non] := by
  have e1 : eqD (.int 2) (.int 2) = some true := by rw [emb_int.eqD (by omega)]; rfl
  have q : runC P cd (n + 1) 11 [] [.d (.tup [a, b]), .d (.int 2)] = .ok (.d (.bl true)) [.d .non, .d .non] := by
    rw [runC_s s.c11]
    simp [S11, entry, blt, isFn, isTy, cmps, e1]
  rw [runC_s s.c12]
  simp [S12, entry, calling_data (s.nr 11 (by simp)), callN_data (s.nr 11 (by simp)), q]
@[simp] theorem ixs_t0 (a : D) (l : List D) : ixs (.tup (a :: l)) (.int 0) = some a := by simp [ixs, atI, ixN]
@[simp] theorem ixs_t1 (a b : D) (l : List D) : ixs (.tup (a :: b :: l)) (.int 1) = some b := by
  simp only [ixs, atI, ixN, List.length_cons]
  rw [if_pos (by decide), if_pos (by omega)]
  rfl
@[simp] theorem ixs_t2 (a b c : D) (l : List D) : ixs (.tup (a :: b :: c :: l)) (.int 2) = some c := by
  simp only [ixs, atI, ixN, List.length_cons]
  rw [if_pos (by decide), if_pos (by omega)]
  rfl
theorem street_ok (s : ShN P cd) (n : Nat) (xs : List Str) (p : Str × Str) (h1 : p.1 ∈ xs) (h2 : p.2 ∈ xs) (h3 : sl p.1 p.2) : runC P cd (n + 3) 16 [] [.d (dSs xs), .d (dP p)] = .ok (.d (.bl true)) [.d .non, .d .non] := by
  have q0 := pair_ok s n (.str p.1) (.str p.2)
  have q1 := isone_ok s (n + 1) p.1 xs
  have q2 := isone_ok s (n + 1) p.2 xs
  rw [decide_eq_true h1] at q1
  rw [decide_eq_true h2] at q2
  rw [runC_s s.c16]
  simp [S16, entry, calling_data (s.nr 12 (by simp)), callN_data (s.nr 12 (by simp)), calling_data (s.nr 8 (by simp)), callN_data (s.nr 8 (by simp)), q0, q1, q2, cmps, h3]
structure StrOk (places : List Str) (streets : List (Str × Str)) : Prop where
  mem : ∀ p ∈ streets, p.1 ∈ places ∧ p.2 ∈ places ∧ sl p.1 p.2
  asc : AscP streets
  len : streets.length ≤ 14
theorem streets_ok (s : ShN P cd) (n : Nat) (xs : List Str) (ps : List (Str × Str)) (h : StrOk xs ps) : runC P cd (n + 6) 17 [] [.d (dSs xs), .d (dPs ps)] = .ok (.n (.l [])) [.d .non, .d .non] := by
  obtain ⟨g, L, c17, cg, ng⟩ := s.c17
  have fl : flatL (xs.map D.str) = true := flatL_map _ (fun _ => rfl) xs
  have hl := h.len
  have hw : runC P cd (n + 5) 13 [] [.d (dPs ps), .d (.int 0), .d (.int 14), .d (.fn g [dSs xs])] = .ok (.n (.l [])) [.d .non, .d .non, .d .non, .d .non] := by
    refine wrong_in_ok s (n + 4) dP (fun _ => rfl) ps 0 14 g [dSs xs] ng (by simp [fl]) (by omega) (by omega) fun k x hx => ?_
    have hm : x ∈ ps := List.mem_of_getElem? hx
    have hb : belowP (ps.take k) x := fun y hy => last_take h.asc hx hy
    obtain ⟨m1, m2, m3⟩ := h.mem x hm
    have q1 := street_ok s n xs x m1 m2 m3
    have q2 := belowP_ok s (n + 2) hb
    rw [runC_s cg]
    simp [-List.map_take, S17_0, entry, calling_data (s.nr 16 (by simp)), callN_data (s.nr 16 (by simp)), calling_data (s.nr 14 (by simp)), callN_data (s.nr 14 (by simp)), q1, q2]
  rw [runC_s c17]
  simp [S17, entry, K_MOST_STREETS, capsOf, calling_data (s.nr 13 (by simp)), callN_data (s.nr 13 (by simp)), hw]
end
end Hr
end Fl
set_option Elab.async false
set_option linter.all false
set_option maxRecDepth 100000
set_option maxHeartbeats 0
/-! Layer H, part 5: Town, plans. -/
namespace Fl
namespace Hr
open PySem PySem.Spec PyProof.Rows L2
/-- a town -/
abbrev dParts (places : List Str) (streets : List (Str × Str)) : D := .tup [dSs places, dPs streets]
abbrev dT (places : List Str) (streets : List (Str × Str)) : D := .ins 6 [(3, dParts places streets)]
structure ShT (P : PI) (cd : Nat → Option Code) : Prop extends ShN P cd where
  c29 : cd 29 = some ⟨3, 0, 4, S29⟩
  c30 : cd 30 = some ⟨1, 0, 1, S30⟩
  c31 : cd 31 = some ⟨1, 0, 1, S31⟩
  c32 : cd 32 = some ⟨1, 0, 1, S32⟩
  c33 : cd 33 = some ⟨2, 0, 2, S33⟩
  c34 : cd 34 = some ⟨1, 0, 1, S34⟩
  ci6 : P.ci 6 = ⟨[(2, 30), (4, 31), (5, 32)], some 33, [3]⟩
  nrT : ∀ f ∈ [30, 31, 32, 33, 34], ∀ j, P.byRef f j = false
  nr29 : ∀ j, P.byRef 29 (j + 1) = false
/-- a town's parts are right -/
structure TownOk (places : List Str) (streets : List (Str × Str)) : Prop where
  nm : ∀ x ∈ places, isNm x
  asc : AscS places
  one : 1 ≤ places.length
  eight : places.length ≤ 8
  str : StrOk places streets
@[simp] theorem le_SL1 : 1 ≤ SL := by decide
@[simp] theorem le_SL2 : 2 ≤ SL := by decide
@[simp] theorem le_SL3 : 3 ≤ SL := by decide
@[simp] theorem le_SL4 : 4 ≤ SL := by decide
@[simp] theorem le_SL5 : 5 ≤ SL := by decide
@[simp] theorem le_SL6 : 6 ≤ SL := by decide
@[simp] theorem le_SL7 : 7 ≤ SL := by decide
@[simp] theorem le_SL8 : 8 ≤ SL := by decide
@[simp] theorem le_SL9 : 9 ≤ SL := by decide
@[simp] theorem le_SL10 : 10 ≤ SL := by decide
@[simp] theorem noEx_ok {α : Type} (a : α) (ρ : Env) : noEx (R.ok a ρ) = .ok a ρ := (rfl)
section
variable {P : PI} {cd : Nat → Option Code}
theorem tb_dataM : ∀ (ds : List D) (as : List SV) (ρ : Env), takeBack (ds.map RV.d) as ρ = ρ := tb_data
/-- a new instance, its arguments data -/
def madeD (ρ : Env) : CO → R RV
  | .ok (.d .non) (.m _ o :: _) => .ok (.n o) ρ
  | .ex e (_ :: _) => .ex e ρ
  | _ => .bad
@[simp] theorem madeD_ok (ρ : Env) (w : Bool) (o : MO) (as : List SV) : madeD ρ (.ok (.d .non) (.m w o :: as)) = .ok (.n o) ρ := (rfl)
theorem made_data (ds : List D) (ρ : Env) (o : CO) : made (ds.map RV.d) ρ o = madeD ρ o := by
  cases o with
  | bad => rfl
  | ex e as =>
    cases as with
    | nil => rfl
    | cons a as => show R.ex e (takeBack _ _ _) = _; rw [tb_data]; rfl
  | ok r as =>
    cases r with
    | n o => rfl
    | sl i => rfl
    | d v =>
      cases v with
      | non =>
        cases as with
        | nil => rfl
        | cons a as =>
          cases a with
          | d v => rfl
          | m w o => show R.ok _ (takeBack _ _ _) = _; rw [tb_data]; rfl
      | _ => rfl
theorem newing_data {call : Call} {C f : Nat} (nb : ∀ j, P.byRef f (j + 1) = false) (rs : List RV) (ρ : Env) : newing P call C f rs ρ = (toDs rs ρ).bind fun ds ρ1 => madeD ρ1 (call f [] (.m false (.i C []) :: ds.map SV.d)) := by
  unfold newing
  rw [restA_data nb]
  cases toDs rs ρ with
  | ok ds ρ1 =>
    show (if (slotsR (ds.map RV.d)).Nodup then _ else _) = _
    rw [slotsR_data, if_pos List.nodup_nil, readA_data]
    exact made_data ds ρ1 _
  | ex e ρ1 => rfl
  | bad => rfl
variable (s : ShT P cd)
include s
theorem init_ok (n : Nat) {ps : List Str} {ss : List (Str × Str)} (t : TownOk ps ss) : runC P cd (n + 7) 29 [] [.m false (.i 6 []), .d (dSs ps), .d (dPs ss)] = .ok (.d .non) [.m false (.i 6 [(3, dParts ps ss)]), .d .non, .d .non] := by
  have q1 := places_ok s.toShN (n + 1) ps t.nm t.asc t.one t.eight
  have q2 := streets_ok s.toShN n ps ss t.str
  rw [runC_s s.c29]
  simp [S29, entry, calling_data (s.nr 15 (by simp)), callN_data (s.nr 15 (by simp)), calling_data (s.nr 17 (by simp)), callN_data (s.nr 17 (by simp)), q1, q2, iter, seqOf, s.ci6, putF1]
theorem new_ok (n : Nat) {ps : List Str} {ss : List (Str × Str)} (t : TownOk ps ss) (ρ : Env) : newing P (runC P cd (n + 7)) 6 29 [.d (dSs ps), .d (dPs ss)] ρ = .ok (.n (.i 6 [(3, dParts ps ss)])) ρ := by
  have q := init_ok s n t
  simp [newing_data s.nr29, q]
theorem att_parts (n : Nat) (ps : List Str) (ss : List (Str × Str)) : runC P cd (n + 1) 32 [] [.d (dT ps ss)] = .ok (.d (dParts ps ss)) [.d .non] := by
  rw [runC_s s.c32]
  simp [S32, entry, List.lookup, s.ci6]
theorem att_places (n : Nat) (ps : List Str) (ss : List (Str × Str)) : runC P cd (n + 1) 30 [] [.d (dT ps ss)] = .ok (.d (dSs ps)) [.d .non] := by
  rw [runC_s s.c30]
  simp [S30, entry, List.lookup, s.ci6]
theorem att_streets (n : Nat) (ps : List Str) (ss : List (Str × Str)) : runC P cd (n + 1) 31 [] [.d (dT ps ss)] = .ok (.d (dPs ss)) [.d .non] := by
  rw [runC_s s.c31]
  simp [S31, entry, List.lookup, s.ci6]
theorem eq_town (n : Nat) (ps ps' : List Str) (ss ss' : List (Str × Str)) : runC P cd (n + 2) 33 [] [.d (dT ps ss), .d (dT ps' ss')] = .ok (.d (.bl (decide (ps = ps' ∧ ss = ss')))) [.d .non, .d .non] := by
  have q1 := att_parts s n ps ss
  have q2 := att_parts s n ps' ss'
  have e1 : eqD (dParts ps ss) (dParts ps' ss') = some (decide (ps = ps' ∧ ss = ss')) := by
    have := (emb_Ss.pair emb_Ps).eqD (by omega) (ps, ss) (ps', ss')
    simpa using this
  rw [runC_s s.c33]
  simp [S33, entry, blt, isFn, isTy, List.lookup, s.ci6, calling_data (s.nrT 32 (by simp)), callN_data (s.nrT 32 (by simp)), q1, q2, cmps, e1]
theorem check_town_ok (n : Nat) (ps : List Str) (ss : List (Str × Str)) : runC P cd (n + 1) 34 [] [.d (dT ps ss)] = .ok (.d .non) [.d .non] := by
  rw [runC_s s.c34]
  simp [S34, entry, blt, isFn, isTy]
end
/-! ### plans -/
structure ShPl (P : PI) (cd : Nat → Option Code) : Prop extends ShT P cd where
  c7 : cd 7 = some ⟨3, 0, 3, S7⟩
  c83 : ∃ g L, cd 83 = some ⟨3, 0, 3, S83 g L⟩ ∧ cd g = some ⟨2, 1, 3, S83_0⟩ ∧ ∀ j, P.byRef g j = false
  c117 : cd 117 = some ⟨1, 0, 1, S117⟩
  c118 : cd 118 = some ⟨2, 0, 2, S118⟩
  c128 : cd 128 = some ⟨2, 0, 3, S128⟩
  nrP : ∀ f ∈ [7, 83, 117, 118, 128], ∀ j, P.byRef f j = false
/-- a plan's number -/
def isW (i : Int) : Prop := i = 1 ∨ i = 0 ∨ i = -1
structure PlanOk (m : Nat) (plan : List Int) : Prop where
  len : plan.length = m
  way : ∀ i ∈ plan, isW i
section
variable {P : PI} {cd : Nat → Option Code} (s : ShPl P cd)
include s
theorem whole_ok (n : Nat) (i : Int) : runC P cd (n + 1) 6 [] [.d (.int i)] = .ok (.d (.bl true)) [.d .non] := by
  rw [runC_s s.c6]
  simp [S6, entry, blt, isFn, isTy]
theorem way_ok (n : Nat) {i : Int} (h : isW i) : runC P cd (n + 3) 117 [] [.d (.int i)] = .ok (.d (.bl true)) [.d .non] := by
  have q := whole_ok s n i
  have h1 : -1 ≤ i := by rcases h with h | h | h <;> omega
  have h2 : i ≤ 1 := by rcases h with h | h | h <;> omega
  have q2 : runC P cd (n + 2) 7 [] [.d (.int i), .d (.int (-1)), .d (.int 1)] = .ok (.d (.bl true)) [.d .non, .d .non, .d .non] := by
    rw [runC_s s.c7]
    simp [S7, entry, calling_data (s.nr 6 (by simp)), callN_data (s.nr 6 (by simp)), q, cmps, h1, h2]
  rw [runC_s s.c117]
  simp [S117, entry, K_BACK, K_AHEAD, calling_data (s.nrP 7 (by simp)), callN_data (s.nrP 7 (by simp)), q2]
theorem wplan_ok (n : Nat) {ps : List Str} {ss : List (Str × Str)} {plan : List Int} (h : PlanOk ss.length plan) : runC P cd (n + 7) 118 [] [.d (dT ps ss), .d (dIs plan)] = .ok (.n (.l [])) [.d .non, .d .non] := by
  obtain ⟨g, L, c83, cg, ng⟩ := s.c83
  have q0 := att_streets s.toShT (n + 5) ps ss
  have el : (ss.length : Int) = plan.length := by rw [h.len]
  have e1 : eqD (.int plan.length) (.int ss.length) = some true := by rw [emb_int.eqD (by omega), decide_eq_true el.symm]
  have qt : runC P cd (n + 5) 11 [] [.d (dIs plan), .d (.int ss.length)] = .ok (.d (.bl true)) [.d .non, .d .non] := by
    rw [runC_s s.c11]
    simp [S11, entry, blt, isFn, isTy, cmps, e1]
  have hw : runC P cd (n + 5) 13 [] [.d (dIs plan), .d (.int ss.length), .d (.int ss.length), .d (.fn g [.fn 117 []])] = .ok (.n (.l [])) [.d .non, .d .non, .d .non, .d .non] := by
    refine wrong_in_ok s.toShN (n + 4) D.int (fun _ => rfl) plan _ _ g [.fn 117 []] ng rfl (by omega) (by omega) fun k x hx => ?_
    have q := way_ok s n (h.way x (List.mem_of_getElem? hx))
    rw [runC_s cg]
    simp [-List.map_take, S83_0, entry, calling_data (s.nrP 117 (by simp)), callN_data (s.nrP 117 (by simp)), q]
  have q83 : runC P cd (n + 6) 83 [] [.d (dIs plan), .d (.int ss.length), .d (.fn 117 [])] = .ok (.n (.l [])) [.d .non, .d .non, .d .non] := by
    rw [runC_s c83]
    simp [S83, entry, capsOf, calling_data (s.nr 13 (by simp)), callN_data (s.nr 13 (by simp)), calling_data (s.nr 11 (by simp)), callN_data (s.nr 11 (by simp)), qt, hw]
  rw [runC_s s.c118]
  simp [S118, entry, List.lookup, s.ci6, calling_data (s.nrT 31 (by simp)), callN_data (s.nrT 31 (by simp)), q0, blt, calling_data (s.nrP 83 (by simp)), callN_data (s.nrP 83 (by simp)), q83]
theorem cplan_ok (n : Nat) {ps : List Str} {ss : List (Str × Str)} {plan : List Int} (h : PlanOk ss.length plan) : runC P cd (n + 8) 128 [] [.d (dT ps ss), .d (dIs plan)] = .ok (.d .non) [.d .non, .d .non] := by
  have q := wplan_ok s n (ps := ps) h
  have q1 := check_town_ok s.toShT (n + 6) ps ss
  rw [runC_s s.c128]
  simp [S128, entry, calling_data (s.nrT 34 (by simp)), callN_data (s.nrT 34 (by simp)), calling_data (s.nrP 118 (by simp)), callN_data (s.nrP 118 (by simp)), q, q1, iter, seqOf]
end
end Hr
end Fl
set_option Elab.async false
set_option linter.all false
set_option maxRecDepth 100000
set_option maxHeartbeats 0
/-! Layer H, part 6: the bowl. -/
namespace Fl
namespace Hr
open PySem PySem.Spec PyProof.Rows L2
/-! ### the first argument by reference -/
def backB (i : Nat) (w : Bool) (ρ : Env) : CO → R RV
  | .ok r (.m _ o :: _) => .ok r (ρ.set i (some (.m w o)))
  | .ok r _ => .ok r ρ
  | .ex e (.m _ o :: _) => .ex e (ρ.set i (some (.m w o)))
  | .ex e _ => .ex e ρ
  | .bad => .bad
@[simp] theorem backB_ok (i : Nat) (w w' : Bool) (ρ : Env) (r : RV) (o : MO) (as : List SV) : backB i w ρ (.ok r (.m w' o :: as)) = .ok r (ρ.set i (some (.m w o))) := (rfl)
section
variable {P : PI} {cd : Nat → Option Code}
theorem back_ref (ds : List D) (i : Nat) (w : Bool) (o0 : MO) (ρ : Env) (h : ρ[i]? = some (some (.m w o0))) (o : CO) : back (.sl i :: ds.map RV.d) ρ o = backB i w ρ o := by
  have tb : ∀ (as : List SV), takeBack (.sl i :: ds.map RV.d) as ρ = match as with
    | .m _ o :: _ => ρ.set i (some (.m w o))
    | _ => ρ := fun as => by
    cases as with
    | nil => unfold takeBack; rfl
    | cons a as =>
      conv => lhs; unfold takeBack
      cases a with
      | d v => exact tb_data ds as ρ
      | m w' o' =>
        dsimp only
        rw [h]
        exact tb_data ds as _
  cases o with
  | ok r as =>
    show R.ok r (takeBack _ _ _) = _
    rw [tb]
    cases as with
    | nil => rfl
    | cons a as => cases a <;> rfl
  | ex e as =>
    show R.ex e (takeBack _ _ _) = _
    rw [tb]
    cases as with
    | nil => rfl
    | cons a as => cases a <;> rfl
  | bad => rfl
theorem restA_succ (br : Nat → Bool) : ∀ (rs : List RV) (j : Nat) (ρ : Env), restA br (j + 1) rs ρ = restA (fun k => br (k + 1)) j rs ρ
  | [], _, _ => rfl
  | r :: rs, j, ρ => by
    unfold restA
    have ih := restA_succ br rs (j + 1)
    split
    · simp only [ih]
    · simp only [ih]
theorem calling_ref {call : Call} {f : Nat} {caps : List D} (b0 : P.byRef f 0 = true) (bs : ∀ j, P.byRef f (j + 1) = false) (i : Nat) (rs : List RV) (ρ : Env) :
    calling P call f caps (.sl i :: rs) ρ = (toDs rs ρ).bind fun ds ρ1 => match ρ1[i]? with
      | some (some (.m w o)) => backB i w ρ1 (call f caps (.m false o :: ds.map SV.d))
      | some (some (.d v)) => back (.sl i :: ds.map RV.d) ρ1 (call f caps (.d v :: ds.map SV.d))
      | _ => .bad := by
  have e : restA (P.byRef f) 0 (.sl i :: rs) ρ = (restA (P.byRef f) 1 rs ρ).bind fun qs ρ1 => .ok (.sl i :: qs) ρ1 := by
    conv => lhs; unfold restA
    rw [b0]
  unfold calling
  rw [e, restA_succ (P.byRef f) rs 0 ρ, restA_data bs rs 0 ρ]
  cases toDs rs ρ with
  | ok ds ρ1 =>
    have nd : slotsR (.sl i :: ds.map RV.d) = [i] := by show i :: slotsR (ds.map RV.d) = _; rw [slotsR_data]
    show (if (slotsR (.sl i :: ds.map RV.d)).Nodup then _ else _) = _
    rw [nd, if_pos (by simp)]
    show (match (match ρ1[i]? with
      | some (some (.m _ o)) => (readA ρ1 (ds.map RV.d)).map (SV.m false o :: ·)
      | some (some (.d v)) => (readA ρ1 (ds.map RV.d)).map (SV.d v :: ·)
      | _ => none) with
    | some vs => back (.sl i :: ds.map RV.d) ρ1 (call f caps vs)
    | none => .bad) = match ρ1[i]? with
      | some (some (.m w o)) => backB i w ρ1 (call f caps (.m false o :: ds.map SV.d))
      | some (some (.d v)) => back (.sl i :: ds.map RV.d) ρ1 (call f caps (.d v :: ds.map SV.d))
      | _ => .bad
    rw [readA_data]
    cases h : ρ1[i]? with
    | none => rfl
    | some x =>
      cases x with
      | none => rfl
      | some sv =>
        cases sv with
        | d v => rfl
        | m w o => exact back_ref ds i w o ρ1 h _
  | ex e ρ1 => rfl
  | bad => rfl
theorem callN_ref {call : Call} {f : Nat} {caps : List D} (hc : caps = []) (b0 : P.byRef f 0 = true) (bs : ∀ j, P.byRef f (j + 1) = false) (i : Nat) (rs : List RV) (ρ : Env) :
    callingN P call f (.sl i :: rs) ρ = (toDs rs ρ).bind fun ds ρ1 => match ρ1[i]? with
      | some (some (.m w o)) => backB i w ρ1 (call f [] (.m false o :: ds.map SV.d))
      | some (some (.d v)) => back (.sl i :: ds.map RV.d) ρ1 (call f [] (.d v :: ds.map SV.d))
      | _ => .bad := by
  rw [callN_sl]
  exact calling_ref b0 bs i rs ρ
end
/-! ### slots that may be set -/
/-- no object of the caller's -/
def Fr (x : Option SV) : Prop := ∀ o, x ≠ some (.m false o)
@[simp] theorem fr_none : Fr none := fun _ h => by cases h
@[simp] theorem fr_d (v : D) : Fr (some (.d v)) := fun _ h => by cases h
@[simp] theorem fr_m (o : MO) : Fr (some (.m true o)) := fun _ h => by cases h
def setX (x : Option (Option SV)) (ρ : Env) : Option Env := match x with
  | some (some (.m false _)) => none
  | some _ => some ρ
  | none => none
@[simp] theorem setS_eq (i : Nat) (v : SV) (ρ : Env) : setS i v ρ = setX ρ[i]? (ρ.set i (some v)) := (rfl)
@[simp] theorem setX_fr (x : Option SV) (ρ : Env) (h : Fr x) : setX (some x) ρ = some ρ := by
  unfold setX
  cases x with
  | none => rfl
  | some sv =>
    cases sv with
    | d v => rfl
    | m w o =>
      cases w with
      | true => rfl
      | false => exact absurd rfl (h o)
@[simp] theorem setAll_nil (ρ : Env) : setAll [] [] ρ = some ρ := (rfl)
@[simp] theorem setAll_cons (i : Nat) (is : List Nat) (d : D) (ds : List D) (ρ : Env) : setAll (i :: is) (d :: ds) ρ = (setS i (.d d) ρ).bind fun ρ1 => setAll is ds ρ1 := (rfl)
@[simp] theorem bindT_one (tg : List Nat) (x : D) (ρ : Env) : bindT tg false x ρ = setAll tg [x] ρ := (rfl)
@[simp] theorem bindT_tup (tg : List Nat) (xs : List D) (ρ : Env) : bindT tg true (.tup xs) ρ = setAll tg xs ρ := (rfl)
def viewX (x : Option (Option SV)) : Option D := match x with
  | some (some (.m _ o)) => some (fz o)
  | some (some (.d v)) => some v
  | _ => none
@[simp] theorem view_sl (ρ : Env) (i : Nat) : view ρ (.sl i) = viewX ρ[i]? := (rfl)
@[simp] theorem viewX_m (w : Bool) (o : MO) : viewX (some (some (.m w o))) = some (fz o) := (rfl)
@[simp] theorem viewX_d (v : D) : viewX (some (some (.d v))) = some v := (rfl)
/-! ### draws -/
abbrev Bowl : Type := Int × Int × Int
abbrev Bw (b : Bowl) : MO := .l [.int b.1, .int b.2.1, .int b.2.2]
structure ShB (P : PI) (cd : Nat → Option Code) : Prop extends ShT P cd where
  c197 : cd 197 = some ⟨2, 0, 5, S197⟩
  c198 : cd 198 = some ⟨2, 0, 4, S198⟩
  c199 : cd 199 = some ⟨2, 0, 2, S199⟩
  c202 : cd 202 = some ⟨2, 0, 11, S202⟩
  c203 : cd 203 = some ⟨3, 0, 11, S203⟩
  c204 : cd 204 = some ⟨1, 0, 1, S204⟩
  b0 : ∀ f ∈ [198, 199, 202, 203], P.byRef f 0 = true
  bs : ∀ f ∈ [198, 199, 202, 203], ∀ j, P.byRef f (j + 1) = false
  nrB : ∀ f ∈ [197, 204], ∀ j, P.byRef f j = false
@[simp] theorem bins_add (i j : Int) : bins .Add (.int i) (.int j) = some (.d (.int (i + j))) := (rfl)
@[simp] theorem bins_sub (i j : Int) : bins .Sub (.int i) (.int j) = some (.d (.int (i - j))) := (rfl)
@[simp] theorem bins_mul (i j : Int) : bins .Mult (.int i) (.int j) = if (-18446744073709551616 < i ∧ i < 18446744073709551616) ∨ (-18446744073709551616 < j ∧ j < 18446744073709551616) then some (.d (.int (i * j))) else none := (rfl)
@[simp] theorem bins_div (i j : Int) : bins .FloorDiv (.int i) (.int j) = if 0 < j ∧ j < 1073741824 then some (.d (.int (i / j))) else none := (rfl)
@[simp] theorem bins_mod (i j : Int) : bins .Mod (.int i) (.int j) = if 0 < j then some (.d (.int (i % j))) else none := (rfl)
@[simp] theorem blt_int (i : Int) : blt .int [.int i] = some (.d (.int i)) := (rfl)
@[simp] theorem blt_lenL (xs : List D) : blt .len [.lst xs] = some (.d (.int xs.length)) := (rfl)
@[simp] theorem blt_lenT (xs : List D) : blt .len [.tup xs] = some (.d (.int xs.length)) := (rfl)
@[simp] theorem ixs_l0 (a : D) (l : List D) : ixs (.lst (a :: l)) (.int 0) = some a := by simp [ixs, atI, ixN]
@[simp] theorem ixs_l1 (a b : D) (l : List D) : ixs (.lst (a :: b :: l)) (.int 1) = some b := by
  simp only [ixs, atI, ixN, List.length_cons]
  rw [if_pos (by decide), if_pos (by omega)]
  rfl
@[simp] theorem ixs_l2 (a b c : D) (l : List D) : ixs (.lst (a :: b :: c :: l)) (.int 2) = some c := by
  simp only [ixs, atI, ixN, List.length_cons]
  rw [if_pos (by decide), if_pos (by omega)]
  rfl
section
variable {P : PI} {cd : Nat → Option Code} (s : ShB P cd)
include s
theorem draw_ok (n : Nat) (b : Bowl) {m : Int} (hm : 0 < m) (hm2 : m < 1073741824) : ∃ (r : Int) (b' : Bowl), 0 ≤ r ∧ r < m ∧ runC P cd (n + 1) 198 [] [.m false (Bw b), .d (.int m)] = .ok (.d (.int r)) [.m false (Bw b'), .d .non] := by
  by_cases h0 : 0 < b.1
  · refine ⟨b.1 % m, (b.1 / m, b.2.1, b.2.2), Int.emod_nonneg _ (by omega), Int.emod_lt_of_pos _ hm, ?_⟩
    rw [runC_s s.c198]
    simp [S198, entry, cmps, h0, blt, hm, hm2, t1Den, stT, putS, putM, ixN]
  · generalize ht : (b.2.1 * 39373 + 17011 * (b.2.2 + 1)) % 2147483563 = t
    have t0 : 0 ≤ t := by rw [← ht]; exact Int.emod_nonneg _ (by omega)
    have t1 : t < 2147483563 := by rw [← ht]; exact Int.emod_lt_of_pos _ (by omega)
    refine ⟨((t * (t % 4093 + 30011) + 7 * (b.2.2 + 1)) % 2147483563 / 733) % m, (b.1, (t * (t % 4093 + 30011) + 7 * (b.2.2 + 1)) % 2147483563, b.2.2 + 1), Int.emod_nonneg _ (by omega), Int.emod_lt_of_pos _ hm, ?_⟩
    have hc : (-18446744073709551616 < t ∧ t < 18446744073709551616) := by omega
    rw [runC_s s.c198]
    simp [S198, entry, cmps, h0, hm, hm2, putS, putM, ixN, ht, hc]
theorem of_gen (n : Nat) (b : Bowl) {v : D} {xs : List D} (hv : v = .tup xs ∨ v = .lst xs) (h0 : xs ≠ []) (h1 : xs.length < 1073741824) : ∃ (x : D) (b' : Bowl), x ∈ xs ∧ runC P cd (n + 2) 199 [] [.m false (Bw b), .d v] = .ok (.d x) [.m false (Bw b'), .d .non] := by
  have hl : 0 < xs.length := List.length_pos_iff.mpr h0
  obtain ⟨r, b', r0, r1, e⟩ := draw_ok s n b (m := (xs.length : Int)) (by omega) (by omega)
  have hr : r.toNat < xs.length := by omega
  have hix : atI xs r = some xs[r.toNat] := by
    unfold atI ixN
    rw [if_pos r0, if_pos r1]
    exact List.getElem?_eq_getElem hr
  refine ⟨xs[r.toNat], b', List.getElem_mem hr, ?_⟩
  have hb := callN_ref (P := P) (call := runC P cd (n + 1)) (caps := []) rfl (s.b0 198 (by simp)) (s.bs 198 (by simp))
  rw [runC_s s.c199]
  rcases hv with rfl | rfl
  · simp [S199, entry, hb, e, ixs, hix]
  · simp [S199, entry, hb, e, ixs, hix]
/-- one of some things of a kind -/
theorem of_ok (n : Nat) (b : Bowl) {α : Type} (e : α → D) {v : D} {xs : List α} (hv : v = .tup (xs.map e) ∨ v = .lst (xs.map e)) (h0 : xs ≠ []) (h1 : xs.length < 1073741824) : ∃ (x : α) (b' : Bowl), x ∈ xs ∧ runC P cd (n + 2) 199 [] [.m false (Bw b), .d v] = .ok (.d (e x)) [.m false (Bw b'), .d .non] := by
  obtain ⟨x, b', hx, q⟩ := of_gen s n b hv (by simpa using h0) (by simpa using h1)
  obtain ⟨a, ha, rfl⟩ := List.mem_map.mp hx
  exact ⟨a, b', ha, q⟩
theorem bowl_ok (n : Nat) (ns : List Int) (lap : Nat) (hlap : lap < 1000000) : ∃ b : Bowl, runC P cd (n + 1) 197 [] [.d (.lst (ns.map .int)), .d (.int lap)] = .ok (.n (Bw b)) [.d .non, .d .non] := by
  have cut : ∃ ms : List Int, cutL (ns.map D.int) none (some 9) = ms.map D.int := ⟨cutL ns none (some 9), by unfold cutL; rw [List.map_take, List.map_drop, List.length_map]⟩
  obtain ⟨ms, hms⟩ := cut
  have hloop : ∀ (x3 : Option SV) (st : Int), Fr x3 → ∃ (st' : Int) (y : Option SV), Fr y ∧ forG P (runC P cd n) [3] false (.cons (.asg 2 (.bin .Mod (.blt .int (.cons (.bin .Add (.bin .Add (.bin .Mult (.v 2) (.k (.int 48611))) (.bin .Mult (.bin .Mod (.blt .int (.cons (.v 3) .nil)) (.k (.int 2147483053))) (.k (.int 19)))) (.k (.int 41))) .nil)) (.k (.int 2147483563)))) .nil) (ms.map D.int) [some (.d (.lst (ns.map .int))), some (.d (.int lap)), some (.d (.int st)), x3, none] = .nx [some (.d (.lst (ns.map .int))), some (.d (.int lap)), some (.d (.int st')), y, none] := by
    intro x3 st hx3
    obtain ⟨ρ', e1, st', y, hy, rfl⟩ := forRun_inv (tg := [3]) (many := false) (b := denS P (runC P cd n) (.cons (.asg 2 (.bin .Mod (.blt .int (.cons (.bin .Add (.bin .Add (.bin .Mult (.v 2) (.k (.int 48611))) (.bin .Mult (.bin .Mod (.blt .int (.cons (.v 3) .nil)) (.k (.int 2147483053))) (.k (.int 19)))) (.k (.int 41))) .nil)) (.k (.int 2147483563)))) .nil))
      (fun l ρ => (∃ (st' : Int) (y : Option SV), (Fr y ∧ (∀ d ∈ l, ∃ i, d = D.int i)) ∧ ρ = [some (.d (.lst (ns.map .int))), some (.d (.int lap)), some (.d (.int st')), y, none])) (ms.map D.int) _ ⟨st, x3, ⟨hx3, fun d hd => by obtain ⟨i, _, rfl⟩ := List.mem_map.mp hd; exact ⟨i, rfl⟩⟩, rfl⟩ (by
        rintro x l ρ ⟨st', y, ⟨hy, hl⟩, rfl⟩
        obtain ⟨i, rfl⟩ := hl x (List.mem_cons_self ..)
        refine ⟨[some (.d (.lst (ns.map .int))), some (.d (.int lap)), some (.d (.int st')), some (.d (.int i)), none], [some (.d (.lst (ns.map .int))), some (.d (.int lap)), some (.d (.int ((st' * 48611 + i % 2147483053 * 19 + 41) % 2147483563))), some (.d (.int i)), none], by simp [hy], .inl (by simp), _, _, ⟨fr_d _, fun d hd => hl d (List.mem_cons_of_mem _ hd)⟩, rfl⟩)
    exact ⟨st', y, hy.1, e1⟩
  obtain ⟨st', y, hy, e1⟩ := hloop none (771041 + 8819 * lap) fr_none
  have hown : ∃ own : Int, (lap < ns.length → atI (ns.map D.int) lap = some (.int own)) := by
    by_cases h : lap < ns.length
    · refine ⟨ns[lap], fun _ => ?_⟩
      unfold atI ixN
      rw [if_pos (by omega), List.length_map, if_pos (by omega)]
      show (ns.map D.int)[((lap : Nat) : Int).toNat]? = _
      rw [Int.toNat_natCast, List.getElem?_map, List.getElem?_eq_getElem h]
      rfl
    · exact ⟨0, fun z => absurd z h⟩
  obtain ⟨own, hown⟩ := hown
  have e0 : -18446744073709551616 < (lap : Int) ∧ (lap : Int) < 18446744073709551616 := by omega
  rw [runC_s s.c197]
  have p16 : bins .Pow (.int 10) (.int 16) = some (.d (.int 10000000000000000)) := by rfl
  by_cases h : lap < ns.length
  · have hi : ixs (.lst (ns.map D.int)) (.int lap) = some (.int own) := hown h
    have h' : (lap : Int) < ns.length := by omega
    by_cases c1 : own < 0
    · refine ⟨(-own, (st' * 53 + own % 2147483053 * 27011 + 11) % 2147483563, 0), ?_⟩
      simp [S197, entry, isNil, partOf, sls, hms, iter, seqOf, e1, cmps, h', hi, hy, e0, p16, c1, blt]
    · by_cases c2 : 10000000000000000 ≤ own
      · refine ⟨(own, (st' * 53 + own % 2147483053 * 27011 + 11) % 2147483563, 0), ?_⟩
        simp [S197, entry, isNil, partOf, sls, hms, iter, seqOf, e1, cmps, h', hi, hy, e0, p16, c1, c2, blt]
      · refine ⟨(0, (st' * 53 + own % 2147483053 * 27011 + 11) % 2147483563, 0), ?_⟩
        simp [S197, entry, isNil, partOf, sls, hms, iter, seqOf, e1, cmps, h', hi, hy, e0, p16, c1, c2, blt]
  · have h' : ¬ (lap : Int) < ns.length := by omega
    refine ⟨(0, (st' * 53 + 0 % 2147483053 * 27011 + 11) % 2147483563, 0), ?_⟩
    simp [S197, entry, isNil, partOf, sls, hms, iter, seqOf, e1, cmps, h', hy, e0, p16, blt]
end
end Hr
end Fl
set_option Elab.async false
set_option linter.all false
set_option maxRecDepth 100000
set_option maxHeartbeats 0
/-! Layer H, part 7a: texts. -/
namespace Fl
namespace Hr
open PySem PySem.Spec PyProof.Rows L2
theorem cps_app (x y : Str) : (x ++ y).cps.toList = x.cps.toList ++ y.cps.toList := by
  show (x.cps ++ y.cps).toList = _
  exact Array.toList_append
theorem len_app (x y : Str) : (x ++ y).length = x.length + y.length := by
  show (x.cps ++ y.cps).size = _
  exact Array.size_append
theorem len_cps (x : Str) : x.length = x.cps.toList.length := by
  show x.cps.size = _
  rw [Array.length_toList]
theorem filterMap_range {α : Type} (l : List α) (k : Nat) (h : k ≤ l.length) : (List.range k).filterMap (fun i => l[i]?) = l.take k := by
  induction k with
  | zero => rfl
  | succ k ih =>
    rw [List.range_succ, List.filterMap_append, ih (by omega)]
    have hk : k < l.length := by omega
    rw [List.take_succ, List.getElem?_eq_getElem hk]
    simp [List.getElem?_eq_getElem hk]
theorem slice_to (x : Str) (k : Nat) : (Txt.slice x none (some (k : Int))).cps.toList = x.cps.toList.take k := by
  have e : Builtin.Str.strSliceIndices none (some (k : Int)) 1 x.length = List.range (min k x.length) := by
    unfold Builtin.Str.strSliceIndices sliceRange
    simp
    have hk : ¬ ((k : Int) < 0) := by omega
    simp [hk]
    congr 1
    split <;> omega
  unfold Txt.slice
  rw [e]
  split
  · rename_i h
    have h : min k x.length = x.length := by simpa using h
    rw [List.take_of_length_le (by rw [← len_cps]; omega)]
  · show (List.filterMap (fun i => x.cps[i]?) (List.range (min k x.length))).toArray.toList = _
    have : (fun (i : Nat) => x.cps[i]?) = fun (i : Nat) => x.cps.toList[i]? := by funext i; simp
    rw [this, List.toList_toArray, filterMap_range _ _ (by rw [← len_cps]; omega)]
    rw [len_cps, ← List.take_eq_take_min]
/-! ### counting -/
theorem nd_len {α : Type} [DecidableEq α] : ∀ {l m : List α}, l.Nodup → (∀ x ∈ l, x ∈ m) → l.length ≤ m.length
  | [], _, _, _ => Nat.zero_le _
  | x :: l, m, nd, h => by
    rw [List.nodup_cons] at nd
    have hx := h x (List.mem_cons_self ..)
    have := nd_len (l := l) (m := m.erase x) nd.2 fun y hy => (List.mem_erase_of_ne fun z => nd.1 (by rw [← z]; exact hy)).mpr (h y (List.mem_cons_of_mem _ hy))
    rw [List.length_erase_of_mem hx] at this
    have := List.length_pos_of_mem hx
    rw [List.length_cons]
    omega
theorem nodup_map_inj {α β : Type} {f : α → β} (hf : ∀ a b, f a = f b → a = b) {l : List α} (h : l.Nodup) : (l.map f).Nodup := by
  rw [List.nodup_iff_pairwise_ne] at *
  rw [List.pairwise_map]
  exact h.imp fun {a b} n z => n (hf a b z)
abbrev sgn (c : Nat) : Str := ⟨#[c]⟩
abbrev lets : List Nat := List.range' 97 26
theorem low_lets {c : Nat} : c ∈ lets ↔ lowC c = true := by
  unfold lowC
  rw [List.mem_range'_1, Bool.and_eq_true, decide_eq_true_eq, decide_eq_true_eq]
  omega
theorem two_ends : ∀ w ∈ words27, (words27.filter fun v => decide (v.cps.toList.dropLast = w.cps.toList.dropLast)).length ≤ 2 := by decide +kernel
theorem few_ends (pre : List Nat) : (words27.filter fun v => decide (v.cps.toList.dropLast = pre)).length ≤ 2 := by
  cases h : words27.filter fun v => decide (v.cps.toList.dropLast = pre) with
  | nil => simp
  | cons w r =>
    have hm : w ∈ words27.filter fun v => decide (v.cps.toList.dropLast = pre) := by rw [h]; exact List.mem_cons_self ..
    rw [List.mem_filter, decide_eq_true_eq] at hm
    have := two_ends w hm.1
    rw [hm.2, h] at this
    exact this
theorem cand_free (pre : Str) (found : List Str) (h : found.length ≤ 20) : ∃ c ∈ lets, pre ++ sgn c ∉ words27 ∧ pre ++ sgn c ∉ found := by
  apply Classical.byContradiction
  intro hn
  have all : ∀ x ∈ lets.map (fun c => pre ++ sgn c), x ∈ (words27.filter fun v => decide (v.cps.toList.dropLast = pre.cps.toList)) ++ found := by
    intro x hx
    obtain ⟨c, hc, rfl⟩ := List.mem_map.mp hx
    by_cases h1 : pre ++ sgn c ∈ words27
    · refine List.mem_append_left _ (List.mem_filter.mpr ⟨h1, ?_⟩)
      rw [cps_app]
      simp
    · by_cases h2 : pre ++ sgn c ∈ found
      · exact List.mem_append_right _ h2
      · exact absurd ⟨c, hc, h1, h2⟩ hn
  have nd : (lets.map (fun c => pre ++ sgn c)).Nodup := nodup_map_inj (fun a b e => by
    have := congrArg (fun z => z.cps.toList) e
    simp only [cps_app] at this
    simpa using this) (List.nodup_range' ..)
  have := nd_len nd all
  have := few_ends pre.cps.toList
  rw [List.length_append, List.length_map, List.length_range'] at *
  omega
/-- what may be tried -/
def cands (name : Str) : List Str := name :: lets.map fun c => Txt.slice name none (some 7) ++ sgn c
theorem cand_ok {name : Str} (hw : isWd name) (hl : name.length ≤ 8) {x : Str} (hx : x ∈ cands name) : isWd x ∧ x.length ≤ 8 := by
  rcases List.mem_cons.mp hx with rfl | hx
  · exact ⟨hw, hl⟩
  · obtain ⟨c, hc, rfl⟩ := List.mem_map.mp hx
    have e := slice_to name 7
    have e : (Txt.slice name none (some 7)).cps.toList = name.cps.toList.take 7 := e
    refine ⟨⟨?_, ?_⟩, ?_⟩
    · rw [cps_app]; simp
    · intro d hd
      rw [cps_app, e] at hd
      rcases List.mem_append.mp hd with hd | hd
      · exact hw.2 d (List.mem_of_mem_take hd)
      · have : d = c := by simpa using hd
        rw [this]; exact low_lets.mp hc
    · rw [len_cps, cps_app, List.length_append, e, List.length_take]
      simp
      omega
theorem cand_some {name : Str} (found : List Str) (h : found.length ≤ 20) : (cands name).filter (fun x => !decide (x ∈ words27 ++ found)) ≠ [] := by
  obtain ⟨c, hc, h1, h2⟩ := cand_free (Txt.slice name none (some 7)) found h
  intro hn
  rw [List.filter_eq_nil_iff] at hn
  refine hn _ (List.mem_cons_of_mem _ (List.mem_map.mpr ⟨c, hc, rfl⟩)) ?_
  simp [h1, h2]
theorem letters_cps : letters.cps.toList = lets := by decide +kernel
theorem split_words27 : Txt.split "all bridge close closed day ear in no none of open out place places plan put quit ring street streets strike town turn undo wall way yes" " " = words27 := by decide +kernel
end Hr
end Fl
set_option Elab.async false
set_option linter.all false
set_option maxRecDepth 100000
set_option maxHeartbeats 0
/-! Layer H, part 7b: drawn names. -/
namespace Fl
namespace Hr
open PySem PySem.Spec PyProof.Rows L2
@[simp] theorem rngD_len (lo : Int) : ∀ n, (rngD lo n).length = n
  | 0 => rfl
  | n + 1 => by show (rngD (lo + 1) n).length + 1 = _; rw [rngD_len]
theorem rngD_mem {lo : Int} : ∀ {n : Nat} {d : D}, d ∈ rngD lo n → ∃ i : Nat, i < n ∧ d = .int (lo + i)
  | 0, _, h => by cases h
  | n + 1, d, h => by
    rcases List.mem_cons.mp (show d ∈ .int lo :: rngD (lo + 1) n from h) with rfl | h
    · exact ⟨0, by omega, by simp⟩
    · obtain ⟨i, hi, rfl⟩ := rngD_mem h
      exact ⟨i + 1, by omega, by congr 1; omega⟩
abbrev sInner : S := .cons (.asg 6 (.bin .Add (.v 6) (.ix (.k (.str "abcdefghijklmnopqrstuvwxyz")) (.call 198 (.cons (.v 0) (.cons (.k (.int 26)) .nil)))))) .nil
abbrev sOuter : S := .cons (.asg 6 (.k (.str ""))) (.cons (.for_ [7] false .range (.cons (.call 199 (.cons (.v 0) (.cons (.tup (.cons (.k (.int 1)) (.cons (.k (.int 1)) (.cons (.k (.int 2)) (.cons (.k (.int 3)) (.cons (.k (.int 5)) (.cons (.k (.int 8)) .nil))))))) .nil))) .nil) sInner) (.cons (.asg 8 (.comp (.v 9) [9] false .seq (.cons (.bin .Add (.lst (.cons (.v 6) .nil)) (.comp (.bin .Add (.sl (.v 6) (.nil) (.k (.int 7))) (.v 10)) [10] false .seq (.cons (.k (.str "abcdefghijklmnopqrstuvwxyz")) .nil) (.nil) [10])) .nil) (.cmp .NotIn (.v 9) (.bin .Add (.v 3) (.v 4))) [9])) (.cons (.exp (.mthM .append 4 (.cons (.ix (.v 8) (.k (.int 0))) .nil))) .nil)))
@[simp] theorem mthM_append (xs : List D) (v : D) : mthM .append (.l xs) [v] = if xs.length < SL then some (.d .non, .l (xs ++ [v])) else none := (rfl)
@[simp] theorem bins_addS (x y : Str) : bins .Add (.str x) (.str y) = if x.length + y.length ≤ SL then some (.d (.str (x ++ y))) else none := (rfl)
@[simp] theorem bins_addL (xs ys : List D) : bins .Add (.lst xs) (.lst ys) = if xs.length + ys.length ≤ SL then some (.n (.l (xs ++ ys))) else none := (rfl)
section
variable {P : PI} {cd : Nat → Option Code} (s : ShB P cd)
include s
/-- the letters of a name -/
theorem inner_ok (n : Nat) (E1 E2 E3 E4 E5 E8 E9 E10 : Option SV) : ∀ (xs : List D) (b : Bowl) (x : Str) (x7 : Option SV), (∀ d ∈ xs, ∃ i, d = .int i) → Fr x7 → x.length + xs.length ≤ 8 → (∀ c ∈ x.cps.toList, lowC c = true) →
    ∃ (b' : Bowl) (y : Str) (y7 : Option SV), Fr y7 ∧ y.length = x.length + xs.length ∧ (∀ c ∈ y.cps.toList, lowC c = true) ∧
      forG P (runC P cd (n + 2)) [7] false sInner xs [some (.m false (Bw b)), E1, E2, E3, E4, E5, some (.d (.str x)), x7, E8, E9, E10] = .nx [some (.m false (Bw b')), E1, E2, E3, E4, E5, some (.d (.str y)), y7, E8, E9, E10]
  | [], b, x, x7, _, h7, _, hc => ⟨b, x, x7, h7, rfl, hc, rfl⟩
  | d :: xs, b, x, x7, hd, h7, hl, hc => by
    obtain ⟨i, rfl⟩ := hd d (List.mem_cons_self ..)
    rw [List.length_cons] at hl
    obtain ⟨r, b1, r0, r1, e⟩ := draw_ok s (n + 1) b (m := 26) (by omega) (by omega)
    have hk : r.toNat < lets.length := by rw [List.length_range']; omega
    have hle : (letters : Str).length = 26 := by decide +kernel
    obtain ⟨c, hcl, hix⟩ : ∃ c, c ∈ lets ∧ ixs (.str letters) (.int r) = some (.str (sgn c)) := by
      refine ⟨lets[r.toNat], List.getElem_mem hk, ?_⟩
      show (if (letters : Str).length ≤ SL then (atI (letters : Str).cps.toList r).map fun c => D.str ⟨#[c]⟩ else none) = _
      rw [if_pos (by rw [hle]; decide), letters_cps]
      unfold atI ixN
      rw [if_pos r0, List.length_range', if_pos (by omega)]
      show (lets[r.toNat]?).map _ = _
      rw [List.getElem?_eq_getElem hk]
      rfl
    have hb := callN_ref (P := P) (call := runC P cd (n + 2)) (caps := []) rfl (s.b0 198 (by simp)) (s.bs 198 (by simp))
    have hlen : x.length + (sgn c).length ≤ SL := by
      have : (8 : Nat) ≤ SL := by decide
      show x.length + 1 ≤ SL
      omega
    obtain ⟨b2, y, y7, f7, ly, cy, e2⟩ := inner_ok n E1 E2 E3 E4 E5 E8 E9 E10 xs b1 (x ++ sgn c) (some (.d (.int i))) (fun d h => hd d (List.mem_cons_of_mem _ h)) (fr_d _) (by rw [len_app]; show x.length + 1 + _ ≤ 8; omega) (by
      intro c' h
      rw [cps_app] at h
      rcases List.mem_append.mp h with h | h
      · exact hc c' h
      · have : c' = c := by simpa using h
        rw [this]
        exact low_lets.mp hcl)
    refine ⟨b2, y, y7, f7, ?_, cy, ?_⟩
    · rw [ly, len_app, List.length_cons]
      show x.length + 1 + xs.length = _
      omega
    · have step : denS P (runC P cd (n + 2)) sInner [some (.m false (Bw b)), E1, E2, E3, E4, E5, some (.d (.str x)), some (.d (.int i)), E8, E9, E10] = .nx [some (.m false (Bw b1)), E1, E2, E3, E4, E5, some (.d (.str (x ++ sgn c))), some (.d (.int i)), E8, E9, E10] := by
        simp [hb, e, hix, hlen]
      show forRun [7] false _ (.int i :: xs) _ = _
      unfold forRun
      simp only [bindT_one, setAll_cons, setAll_nil, setS_eq, List.getElem?_cons_succ, List.getElem?_cons_zero, setX_fr _ _ h7, Option.bind_some, List.set_cons_succ, List.set_cons_zero]
      rw [step]
      exact e2
/-- the candidates, as the block tells them -/
theorem some_ok (n : Nat) (E0 E1 E2 E5 E7 E8 : Option SV) (name : Str) (found : List Str) (hl : name.length ≤ 8) (hf : found.length ≤ 8) :
    (den P (runC P cd n) (.comp (.v 9) [9] false .seq (.cons (.bin .Add (.lst (.cons (.v 6) .nil)) (.comp (.bin .Add (.sl (.v 6) (.nil) (.k (.int 7))) (.v 10)) [10] false .seq (.cons (.k (.str "abcdefghijklmnopqrstuvwxyz")) .nil) (.nil) [10])) .nil) (.cmp .NotIn (.v 9) (.bin .Add (.v 3) (.v 4))) [9])).v
      [E0, E1, E2, some (.m true (.l (words27.map .str))), some (.m true (.l (found.map .str))), E5, some (.d (.str name)), E7, E8, none, none] =
    .ok (.n (.l (((cands name).filter fun x => !decide (x ∈ words27 ++ found)).map .str))) [E0, E1, E2, some (.m true (.l (words27.map .str))), some (.m true (.l (found.map .str))), E5, some (.d (.str name)), E7, E8, none, none] := by
  have h8 : (8 : Nat) ≤ SL := by decide
  have hls : name.length ≤ SL := by omega
  have hsl : ∀ c, (Txt.slice name none (some 7)).length + (sgn c).length ≤ SL := fun c => by
    have := Txt.slice_le name none (some 7)
    show _ + 1 ≤ SL
    have : (9 : Nat) ≤ SL := by decide
    omega
  have in1 : compG P (runC P cd n) [10] [10] false .nil (.bin .Add (.sl (.v 6) (.nil) (.k (.int 7))) (.v 10)) (lets.map fun c => D.str (sgn c)) [E0, E1, E2, some (.m true (.l (words27.map .str))), some (.m true (.l (found.map .str))), E5, some (.d (.str name)), E7, E8, none, none] =
      .ok (.n (.l ((lets.map fun c => Txt.slice name none (some 7) ++ sgn c).map .str))) [E0, E1, E2, some (.m true (.l (words27.map .str))), some (.m true (.l (found.map .str))), E5, some (.d (.str name)), E7, E8, none, none] := by
    unfold compG
    rw [compF_pure (fun d => match d with | .str x => .str (Txt.slice name none (some 7) ++ x) | d => d) (fun _ => true) (by rfl) (by rw [List.length_map, List.length_range']; decide)]
    · rw [List.filter_eq_self.mpr (fun _ _ => rfl), List.map_map, List.map_map]
      rfl
    · intro y hy
      obtain ⟨c, hc, rfl⟩ := List.mem_map.mp hy
      refine ⟨[E0, E1, E2, some (.m true (.l (words27.map .str))), some (.m true (.l (found.map .str))), E5, some (.d (.str name)), E7, E8, none, some (.d (.str (sgn c)))], rfl, rfl, fun _ => ?_, rfl⟩
      simp [isNil, partOf, sls, hls, hsl c]
  have out1 : compG P (runC P cd n) [9] [9] false (.cmp .NotIn (.v 9) (.bin .Add (.v 3) (.v 4))) (.v 9) ((cands name).map .str) [E0, E1, E2, some (.m true (.l (words27.map .str))), some (.m true (.l (found.map .str))), E5, some (.d (.str name)), E7, E8, none, none] =
      .ok (.n (.l (((cands name).filter fun x => !decide (x ∈ words27 ++ found)).map .str))) [E0, E1, E2, some (.m true (.l (words27.map .str))), some (.m true (.l (found.map .str))), E5, some (.d (.str name)), E7, E8, none, none] := by
    unfold compG
    rw [compF_pure (fun d => d) (fun d => match d with | .str x => !decide (x ∈ words27 ++ found) | _ => false) (by rfl) (by rw [List.length_map]; show (lets.map _).length + 1 ≤ SL; rw [List.length_map, List.length_range']; decide)]
    · rw [List.map_id'', List.filter_map]
      · rfl
      · exact fun _ => rfl
    · intro y hy
      obtain ⟨x, hx, rfl⟩ := List.mem_map.mp hy
      refine ⟨[E0, E1, E2, some (.m true (.l (words27.map .str))), some (.m true (.l (found.map .str))), E5, some (.d (.str name)), E7, E8, some (.d (.str x)), none], rfl, ?_, fun _ => ?_, rfl⟩
      · have e1 : memD (.str x) (.lst (words27.map D.str ++ found.map D.str)) = some (decide (x ∈ words27 ++ found)) := by
          rw [← List.map_append]
          exact emb_str.memL (by omega) x _
        have e2 : (words27.map D.str).length + (found.map D.str).length ≤ SL := by
          rw [List.length_map, List.length_map]
          show 27 + found.length ≤ SL
          have : (100 : Nat) ≤ SL := by decide
          omega
        have hb : (op2 (den P (runC P cd n) (.v 3)) (den P (runC P cd n) (.v 4)) (bins .Add)).v [E0, E1, E2, some (.m true (.l (words27.map .str))), some (.m true (.l (found.map .str))), E5, some (.d (.str name)), E7, E8, some (.d (.str x)), none] = .ok (.n (.l (words27.map D.str ++ found.map D.str))) [E0, E1, E2, some (.m true (.l (words27.map .str))), some (.m true (.l (found.map .str))), E5, some (.d (.str name)), E7, E8, some (.d (.str x)), none] := by
          have e3 : bins .Add (.lst (words27.map D.str)) (.lst (found.map D.str)) = some (.n (.l (words27.map D.str ++ found.map D.str))) := by rw [bins_addL, if_pos e2]
          simp only [op2_v, den_v, vDen_v, List.getElem?_cons_succ, List.getElem?_cons_zero, bind_ok', view_sl, viewX_m, fz_l, Option.bind_some, e3, opt_some']
        show (den P (runC P cd n) (.cmp .NotIn (.v 9) (.bin .Add (.v 3) (.v 4)))).t _ = _
        rw [den_cmp, vDen_t]
        have h9 : (den P (runC P cd n) (.v 9)).v [E0, E1, E2, some (.m true (.l (words27.map .str))), some (.m true (.l (found.map .str))), E5, some (.d (.str name)), E7, E8, some (.d (.str x)), none] = .ok (.d (.str x)) [E0, E1, E2, some (.m true (.l (words27.map .str))), some (.m true (.l (found.map .str))), E5, some (.d (.str name)), E7, E8, some (.d (.str x)), none] := rfl
        rw [h9, bind_ok', den_bin, hb, bind_ok']
        show (R.opt (((some (D.lst (words27.map D.str ++ found.map D.str))).bind fun y => (cmps .NotIn (.str x) y).map fun b => RV.d (.bl b))) _).bind _ = _
        show (R.opt ((((memD (.str x) (.lst (words27.map D.str ++ found.map D.str))).map (!·)).map fun b => RV.d (.bl b))) _).bind _ = _
        rw [e1]
        rfl
      · rfl
  have e0 : ([name] ++ (lets.map fun c => Txt.slice name none (some 7) ++ sgn c)).map D.str = (cands name).map D.str := rfl
  have lc : iter .seq [.str (letters : Str)] = some (lets.map fun c => D.str (sgn c)) := by
    show some ((letters : Str).cps.toList.map fun c => D.str ⟨#[c]⟩) = _
    rw [letters_cps]
  have hla : [D.str name].length + ((lets.map fun c => Txt.slice name none (some 7) ++ sgn c).map D.str).length ≤ SL := by
    rw [List.length_map, List.length_map, List.length_range']
    show 27 ≤ SL
    decide
  have e1 : iter .seq [.lst ([D.str name] ++ (lets.map fun c => Txt.slice name none (some 7) ++ sgn c).map D.str)] = some ((cands name).map .str) := rfl
  rw [den_comp, vDen_v]
  have hsrc : (den P (runC P cd n) (.cons (.bin .Add (.lst (.cons (.v 6) .nil)) (.comp (.bin .Add (.sl (.v 6) (.nil) (.k (.int 7))) (.v 10)) [10] false .seq (.cons (.k (.str "abcdefghijklmnopqrstuvwxyz")) .nil) (.nil) [10])) .nil)).l [E0, E1, E2, some (.m true (.l (words27.map .str))), some (.m true (.l (found.map .str))), E5, some (.d (.str name)), E7, E8, none, none] =
      .ok [.n (.l ([D.str name] ++ (lets.map fun c => Txt.slice name none (some 7) ++ sgn c).map D.str))] [E0, E1, E2, some (.m true (.l (words27.map .str))), some (.m true (.l (found.map .str))), E5, some (.d (.str name)), E7, E8, none, none] := by
    have e3 : bins .Add (.lst [D.str name]) (.lst ((lets.map fun c => Txt.slice name none (some 7) ++ sgn c).map D.str)) = some (.n (.l ([D.str name] ++ (lets.map fun c => Txt.slice name none (some 7) ++ sgn c).map D.str))) := by rw [bins_addL, if_pos hla]
    simp only [den_cons, den_nil, den_bin, op2_v, den_lst, vDen_v, den_v, List.getElem?_cons_succ, List.getElem?_cons_zero, bind_ok', toDs_cons', toDs_nil, toD_d, List.length_cons, List.length_nil, le_SL1, if_true, den_comp, den_k, lc, opt_some', in1, view_n, fz_l, Option.bind_some, e3, Nat.zero_add]
  rw [hsrc]
  simp only [bind_ok', toDs_cons', toDs_nil, toD_n, fz_l, e1, opt_some', out1]
end
end Hr
end Fl
set_option Elab.async false
set_option linter.all false
set_option maxRecDepth 100000
set_option maxHeartbeats 0
/-! Layer H, part 7c: drawn names, whole. -/
namespace Fl
namespace Hr
open PySem PySem.Spec PyProof.Rows L2
/-- names found so far -/
structure FoundOk (found : List Str) : Prop where
  nm : ∀ x ∈ found, isNm x
  nd : found.Nodup
theorem nm_of {x : Str} (h : isWd x ∧ x.length ≤ 8) (hn : x ∉ words27) : isNm x := ⟨h.1, h.2, hn⟩
section
variable {P : PI} {cd : Nat → Option Code} (s : ShB P cd)
include s
abbrev eN (b : Bowl) (many : D) (wd : D) (found : List Str) (x5 x6 x7 x8 : Option SV) : Env := [some (.m false (Bw b)), some (.d many), some (.d wd), some (.m true (.l (words27.map .str))), some (.m true (.l (found.map .str))), x5, x6, x7, x8, none, none]
theorem outer_ok (n : Nat) (many wd : D) (b : Bowl) (found : List Str) (i : Int) (x6 x7 x8 : Option SV) (h6 : Fr x6) (h7 : Fr x7) (h8 : Fr x8) (hf : FoundOk found) (hl : found.length ≤ 7) :
    ∃ (b' : Bowl) (x : Str) (y6 y7 y8 : Option SV), Fr y6 ∧ Fr y7 ∧ Fr y8 ∧ FoundOk (found ++ [x]) ∧ denS P (runC P cd (n + 2)) sOuter (eN b many wd found (some (.d (.int i))) x6 x7 x8) = .nx (eN b' many wd (found ++ [x]) (some (.d (.int i))) y6 y7 y8) := by
  obtain ⟨m, b1, hm, e1⟩ := of_ok s n b D.int (v := .tup [.int 1, .int 1, .int 2, .int 3, .int 5, .int 8]) (xs := [1, 1, 2, 3, 5, 8]) (.inl rfl) (by simp) (by decide)
  have hm8 : 1 ≤ m ∧ m ≤ 8 := by simp at hm; omega
  have hit : iter .range [.int m] = some (rngD 0 m.toNat) := by
    have : sm62 m = true := by unfold sm62; exact decide_eq_true (by omega)
    simp [iter, this]
  have hrl : (rngD 0 m.toNat).length = m.toNat := rngD_len ..
  obtain ⟨b2, y, y7, f7, ly, cy, e2⟩ := inner_ok s n (some (.d many)) (some (.d wd)) (some (.m true (.l (words27.map .str)))) (some (.m true (.l (found.map .str)))) (some (.d (.int i))) x8 none none (rngD 0 m.toNat) b1 "" x7 (fun d h => by obtain ⟨j, _, e⟩ := rngD_mem h; exact ⟨_, e⟩) h7 (by rw [hrl]; show 0 + _ ≤ 8; omega) (by intro c h; exact absurd h (by simp [show (("" : Str).cps) = #[] by decide +kernel]))
  have l0 : ("" : Str).length = 0 := by decide +kernel
  rw [l0, hrl] at ly
  have wy : isWd y := ⟨by intro z; rw [len_cps, z] at ly; simp at ly; omega, cy⟩
  have ly8 : y.length ≤ 8 := by omega
  have e3 := some_ok s (n + 2) (some (.m false (Bw b2))) (some (.d many)) (some (.d wd)) (some (.d (.int i))) y7 x8 y found ly8 (by omega)
  have hne := cand_some (name := y) found (by omega)
  obtain ⟨x, r, hx⟩ := List.exists_cons_of_ne_nil hne
  have hxm : x ∈ (cands y).filter fun x => !decide (x ∈ words27 ++ found) := by rw [hx]; exact List.mem_cons_self ..
  rw [List.mem_filter] at hxm
  obtain ⟨hx1, hx2⟩ := hxm
  have hx2 : x ∉ words27 ++ found := by simpa using hx2
  rw [List.mem_append, not_or] at hx2
  have hnm : isNm x := nm_of (cand_ok wy ly8 hx1) hx2.1
  have fok : FoundOk (found ++ [x]) := by
    refine ⟨fun z hz => ?_, ?_⟩
    · rcases List.mem_append.mp hz with hz | hz
      · exact hf.nm z hz
      · rw [List.mem_singleton.mp hz]; exact hnm
    · rw [List.nodup_append]
      refine ⟨hf.nd, by simp, fun a ha b hb z => ?_⟩
      rw [List.mem_singleton.mp hb] at z
      rw [z] at ha
      exact hx2.2 ha
  rw [hx] at e3
  have hb := callN_ref (P := P) (call := runC P cd (n + 2)) (caps := []) rfl (s.b0 199 (by simp)) (s.bs 199 (by simp))
  have hls : found.length < SL := by have : (8 : Nat) ≤ SL := by decide
                                     omega
  refine ⟨b2, x, some (.d (.str y)), y7, some (.m true (.l ((x :: r).map .str))), fr_d _, f7, fr_m _, fok, ?_⟩
  simp only [denS_cons, denS_asg, den_k, vDen_v, toO_ok', svOf_d, Option.bind_some, setS_eq, List.getElem?_cons_succ, List.getElem?_cons_zero, setX_fr _ _ h6, O_of_some, List.set_cons_succ, List.set_cons_zero, denS_for_, den_cons, den_nil, den_call, den_v, den_tup, bind_ok', toDs_cons', toDs_nil, toD_d, List.length_cons, List.length_nil, le_SL6, if_true, hb, List.map_cons, List.map_nil, e1, backB_ok, hit, opt_some', e2, e3, svOf_n, setX_fr _ _ h8, denS_exp, den_mthM, den_ix, op2_v, view_sl, viewX_m, fz_l, ixs_l0, Option.map_some, mthM_append, List.length_map, hls, denS_nil, List.map_append, Nat.zero_add, Nat.reduceAdd, eN, view_d]
theorem loop_ok (n : Nat) (many wd : D) : ∀ (xs : List D) (b : Bowl) (found : List Str) (x5 x6 x7 x8 : Option SV), (∀ d ∈ xs, ∃ i, d = .int i) → Fr x5 → Fr x6 → Fr x7 → Fr x8 → FoundOk found → found.length + xs.length ≤ 8 →
    ∃ (b' : Bowl) (fd : List Str) (y5 y6 y7 y8 : Option SV), FoundOk fd ∧ fd.length = found.length + xs.length ∧ forG P (runC P cd (n + 2)) [5] false sOuter xs (eN b many wd found x5 x6 x7 x8) = .nx (eN b' many wd fd y5 y6 y7 y8)
  | [], b, found, x5, x6, x7, x8, _, _, _, _, _, hf, _ => ⟨b, found, x5, x6, x7, x8, hf, rfl, rfl⟩
  | d :: xs, b, found, x5, x6, x7, x8, hd, h5, h6, h7, h8, hf, hl => by
    obtain ⟨i, rfl⟩ := hd d (List.mem_cons_self ..)
    rw [List.length_cons] at hl
    obtain ⟨b1, x, y6, y7, y8, f6, f7, f8, fok, e1⟩ := outer_ok s n many wd b found i x6 x7 x8 h6 h7 h8 hf (by omega)
    obtain ⟨b2, fd, z5, z6, z7, z8, fok2, lf, e2⟩ := loop_ok n many wd xs b1 (found ++ [x]) (some (.d (.int i))) y6 y7 y8 (fun d h => hd d (List.mem_cons_of_mem _ h)) (fr_d _) f6 f7 f8 fok (by rw [List.length_append, List.length_singleton]; omega)
    refine ⟨b2, fd, z5, z6, z7, z8, fok2, by rw [lf, List.length_append, List.length_singleton, List.length_cons]; omega, ?_⟩
    show forRun [5] false _ (.int i :: xs) _ = _
    unfold forRun
    have eb : bindT [5] false (.int i) (eN b many wd found x5 x6 x7 x8) = some (eN b many wd found (some (.d (.int i))) x6 x7 x8) := by
      simp only [eN, bindT_one, setAll_cons, setAll_nil, setS_eq, List.getElem?_cons_succ, List.getElem?_cons_zero, setX_fr _ _ h5, Option.bind_some, List.set_cons_succ, List.set_cons_zero]
    rw [eb]
    dsimp only
    rw [e1]
    exact e2
theorem names_ok (n : Nat) (b : Bowl) {m : Int} (h1 : 1 ≤ m) (h8 : m ≤ 8) : ∃ (b' : Bowl) (names : List Str), names.length = m.toNat ∧ (∀ x ∈ names, isNm x) ∧ AscS names ∧
    runC P cd (n + 3) 202 [] [.m false (Bw b), .d (.int m)] = .ok (.d (dSs names)) [.m false (Bw b'), .d .non] := by
  have hit : iter .range [.int m] = some (rngD 0 m.toNat) := by
    have : sm62 m = true := by unfold sm62; exact decide_eq_true (by omega)
    simp [iter, this]
  have hrl : (rngD 0 m.toNat).length = m.toNat := rngD_len ..
  obtain ⟨b', fd, y5, y6, y7, y8, fok, lf, e⟩ := loop_ok s n (.int m) (.str "all bridge close closed day ear in no none of open out place places plan put quit ring street streets strike town turn undo wall way yes") (rngD 0 m.toNat) b [] none none none none (fun d h => by obtain ⟨j, _, e⟩ := rngD_mem h; exact ⟨_, e⟩) fr_none fr_none fr_none fr_none ⟨(fun _ h => nomatch h), List.nodup_nil⟩ (by rw [hrl]; show 0 + _ ≤ 8; omega)
  rw [hrl] at lf
  have lf : fd.length = m.toNat := by rw [lf]; exact Nat.zero_add _
  obtain ⟨zs, es, pz, wz⟩ := sort_strs fd (by have : (8 : Nat) ≤ SL := by decide
                                              omega)
  refine ⟨b', zs, by rw [pz.length_eq, lf], fun x hx => fok.nm x (pz.mem_iff.mp hx), asc_of (fun h h' => sl_tri h h') wz (pz.nodup_iff.mpr fok.nd), ?_⟩
  have hsp : mth .split (.str "all bridge close closed day ear in no none of open out place places plan put quit ring street streets strike town turn undo wall way yes") [.str " "] = some (.n (.l (words27.map .str))) := by
    rw [← split_words27]
    have hc : ((" " : Str).length == 0) = false ∧ ("all bridge close closed day ear in no none of open out place places plan put quit ring street streets strike town turn undo wall way yes" : Str).length + 2 ≤ SL := ⟨by decide +kernel, by decide +kernel⟩
    exact if_pos (e := none) hc
  have hsort : blt .sorted [.lst (fd.map D.str)] = some (.n (.l (zs.map D.str))) := by
    show (sortL (fd.map D.str)).map _ = _
    rw [es]
    rfl
  have htup : blt .tuple [.lst (zs.map D.str)] = some (.d (.tup (zs.map D.str))) := rfl
  have hpar : ∀ (ρ : Env), parAll [3, 4] [.n (.l (words27.map .str)), .n (.l [])] ρ = (setS 3 (.m true (.l (words27.map .str))) ρ).bind fun ρ1 => (setS 4 (.m true (.l [])) ρ1).bind fun ρ2 => some ρ2 := fun _ => rfl
  have eS : S202 = .cons (.asg 2 (.k (.str "all bridge close closed day ear in no none of open out place places plan put quit ring street streets strike town turn undo wall way yes"))) (.cons (.par [3, 4] (.cons (.mth .split (.v 2) (.cons (.k (.str " ")) .nil)) (.cons (.lst (.nil)) .nil))) (.cons (.for_ [5] false .range (.cons (.v 1) .nil) sOuter) (.cons (.ret (.blt .tuple (.cons (.blt .sorted (.cons (.v 4) .nil)) .nil))) .nil))) := rfl
  rw [runC_s s.c202, if_pos ⟨rfl, rfl⟩, eS]
  have e' : forG P (runC P cd (n + 2)) [5] false sOuter (rngD 0 m.toNat) [some (.m false (Bw b)), some (.d (.int m)), some (.d (.str "all bridge close closed day ear in no none of open out place places plan put quit ring street streets strike town turn undo wall way yes")), some (.m true (.l (words27.map .str))), some (.m true (.l [])), none, none, none, none, none, none] = .nx (eN b' (.int m) (.str "all bridge close closed day ear in no none of open out place places plan put quit ring street streets strike town turn undo wall way yes") fd y5 y6 y7 y8) := e
  show leave 2 (denS P (runC P cd (n + 2)) _ [some (.m false (Bw b)), some (.d (.int m)), none, none, none, none, none, none, none, none, none]) = _
  simp only [denS_cons, denS_asg, den_k, vDen_v, toO_ok', svOf_d, Option.bind_some, setS_eq, List.getElem?_cons_succ, List.getElem?_cons_zero, setX_fr _ _ fr_none, O_of_some, List.set_cons_succ, List.set_cons_zero, denS_par, den_cons, den_nil, den_mth, den_v, bind_ok', view_d, views_cons, views_nil, hsp, opt_some', den_lst, toDs_nil, List.length_nil, Nat.zero_le, if_true, hpar, denS_for_, toDs_cons', toD_d, hit, e', denS_ret, den_blt, opL_v, viewX_m, view_sl, fz_l, hsort, view_n, htup, retF_d, leave_rt, outs_s, outs_0, outS_m, outS_d]
end
end Hr
end Fl
set_option Elab.async false
set_option linter.all false
set_option maxRecDepth 100000
set_option maxHeartbeats 0
/-! Layer H, part 8: drawn towns. -/
namespace Fl
namespace Hr
open PySem PySem.Spec PyProof.Rows L2
def toX (x : Option (Option SV)) (i : Nat) (ρ : Env) : R D := match x with
  | some (some (.m true o)) => .ok (fz o) (ρ.set i (some (.d (fz o))))
  | some (some (.d v)) => .ok v ρ
  | _ => .bad
@[simp] theorem toD_sl (i : Nat) (ρ : Env) : toD (.sl i) ρ = toX ρ[i]? i ρ := (rfl)
@[simp] theorem toX_m (o : MO) (i : Nat) (ρ : Env) : toX (some (some (.m true o))) i ρ = .ok (fz o) (ρ.set i (some (.d (fz o)))) := (rfl)
@[simp] theorem toX_d (v : D) (i : Nat) (ρ : Env) : toX (some (some (.d v))) i ρ = .ok v ρ := (rfl)
theorem atI_map {α : Type} (e : α → D) (xs : List α) (i : Int) (h0 : 0 ≤ i) (h1 : i < xs.length) : ∃ x, x ∈ xs ∧ xs[i.toNat]? = some x ∧ atI (xs.map e) i = some (e x) := by
  have hk : i.toNat < xs.length := by omega
  refine ⟨xs[i.toNat], List.getElem_mem hk, List.getElem?_eq_getElem hk, ?_⟩
  unfold atI ixN
  rw [if_pos h0, List.length_map, if_pos h1]
  show (xs.map e)[i.toNat]? = _
  rw [List.getElem?_map, List.getElem?_eq_getElem hk]
  rfl
/-! ### a dict of pairs -/
abbrev kvP (p : Str × Str) : List Key × D := ([.inr p.1, .inr p.2], .bl true)
def fM (ps : List (Str × Str)) : MO := match ps with
  | [] => .k []
  | p :: r => .t ((p :: r).map kvP)
def addP (ps : List (Str × Str)) (p : Str × Str) : List (Str × Str) := if p ∈ ps then ps else ps ++ [p]
theorem kvP_inj (p q : Str × Str) : (kvP p).1 = (kvP q).1 ↔ p = q := by
  obtain ⟨a, b⟩ := p
  obtain ⟨c, d⟩ := q
  simp [kvP]
theorem dPut_P (ps : List (Str × Str)) (p : Str × Str) : dPut (ps.map kvP) [.inr p.1, .inr p.2] (.bl true) = (addP ps p).map kvP := by
  unfold dPut addP
  have h1 : ((ps.map kvP).any fun q => decide (q.1 = [.inr p.1, .inr p.2])) = decide (p ∈ ps) := by
    induction ps with
    | nil => rfl
    | cons q r ih =>
      rw [List.map_cons, List.any_cons, ih]
      have : decide ((kvP q).1 = [.inr p.1, .inr p.2]) = decide (p = q) := by
        have := kvP_inj q p
        by_cases h : p = q
        · simp [h]
        · have h' : ¬ q = p := fun z => h z.symm
          rw [decide_eq_false h, decide_eq_false (fun z => h' (this.mp z))]
      rw [this]
      by_cases h : p = q <;> simp [h]
  rw [h1]
  by_cases h : p ∈ ps
  · simp only [h, decide_true, if_true]
    rw [List.map_map]
    refine List.map_congr_left fun q _ => ?_
    show (if (kvP q).1 = [.inr p.1, .inr p.2] then ((kvP q).1, D.bl true) else kvP q) = kvP q
    split
    · rfl
    · rfl
  · simp only [h, decide_false, if_false, Bool.false_eq_true]
    rw [List.map_append]
    rfl
theorem put_P (ps : List (Str × Str)) (p : Str × Str) (hl : ps.length < SL) : putM (fM ps) (dP p) (.bl true) = some (fM (addP ps p)) := by
  cases ps with
  | nil => rfl
  | cons q r =>
    show (if ((q :: r).map kvP).length < SL then some (MO.t (dPut ((q :: r).map kvP) [.inr p.1, .inr p.2] (.bl true))) else none) = _
    rw [if_pos (by simpa using hl), dPut_P]
    unfold addP
    split <;> rfl
theorem len_P (ps : List (Str × Str)) : blt .len [fz (fM ps)] = some (.d (.int ps.length)) := by
  cases ps with
  | nil => rfl
  | cons q r =>
    show some (RV.d (.int (((q :: r).map kvP).length : Nat))) = _
    rw [List.length_map]
theorem list_P (ps : List (Str × Str)) : blt .list [fz (fM ps)] = some (.n (.l (ps.map dP))) := by
  cases ps with
  | nil => rfl
  | cons q r =>
    show some (RV.n (.l (((q :: r).map kvP).map fun p => D.tup (p.1.map kD)))) = _
    rw [List.map_map]
    rfl
/-- streets found so far -/
structure FP (pl : List Str) (ps : List (Str × Str)) : Prop where
  mem : ∀ p ∈ ps, p.1 ∈ pl ∧ p.2 ∈ pl ∧ sl p.1 p.2
  nd : ps.Nodup
theorem FP.nil (pl : List Str) : FP pl [] := ⟨(fun _ h => nomatch h), List.nodup_nil⟩
theorem FP.add {pl : List Str} {ps : List (Str × Str)} (h : FP pl ps) {p : Str × Str} (hp : p.1 ∈ pl ∧ p.2 ∈ pl ∧ sl p.1 p.2) : FP pl (addP ps p) := by
  unfold addP
  split
  · exact h
  · rename_i hn
    refine ⟨fun q hq => ?_, ?_⟩
    · rcases List.mem_append.mp hq with hq | hq
      · exact h.mem q hq
      · rw [List.mem_singleton.mp hq]; exact hp
    · rw [List.nodup_append]
      refine ⟨h.nd, by simp, fun a ha b hb z => ?_⟩
      rw [List.mem_singleton.mp hb] at z
      rw [z] at ha
      exact hn ha
theorem addP_len (ps : List (Str × Str)) (p : Str × Str) : (addP ps p).length ≤ ps.length + 1 := by
  unfold addP
  split
  · omega
  · rw [List.length_append, List.length_singleton]; exact Nat.le_refl _
theorem sort_two {a b : Str} (h : a ≠ b) : ∃ x y : Str, sl x y ∧ ((x = a ∧ y = b) ∨ (x = b ∧ y = a)) ∧ sortL [.str a, .str b] = some [.str x, .str y] := by
  obtain ⟨zs, e, p, w⟩ := sort_strs [a, b] (by simp)
  have hl := p.length_eq
  match zs, hl with
  | [x, y], _ =>
    refine ⟨x, y, ?_, ?_, e⟩
    · have hxy : x ≠ y := by
        have := p.nodup_iff.mpr (by simp [h] : [a, b].Nodup)
        simpa using this
      have : ¬ sl y x := by simpa using w
      exact Classical.byContradiction fun z => hxy (sl_tri z this)
    · have hx : x ∈ [a, b] := p.mem_iff.mp (by simp)
      have hy : y ∈ [a, b] := p.mem_iff.mp (by simp)
      have ha : a ∈ [x, y] := p.mem_iff.mpr (by simp)
      have hb : b ∈ [x, y] := p.mem_iff.mpr (by simp)
      simp at hx hy ha hb
      rcases hx with rfl | rfl
      · left
        refine ⟨rfl, ?_⟩
        rcases hb with hb | hb
        · exact absurd hb.symm h
        · exact hb.symm
      · right
        refine ⟨rfl, ?_⟩
        rcases ha with ha | ha
        · exact absurd ha h
        · exact ha.symm
abbrev sC : S := .cons (.asg 4 (.bin .Add (.v 4) (.comp (.tup (.cons (.ix (.v 3) (.v 6)) (.cons (.v 7) .nil))) [7] false .seq (.cons (.sl (.v 3) (.bin .Add (.v 6) (.k (.int 1))) (.nil)) .nil) (.nil) [7]))) .nil
abbrev sD : S := .cons (.asg 8 (.tup (.cons (.ix (.v 3) (.v 6)) (.cons (.ix (.v 3) (.bin .Sub (.bin .Add (.v 6) (.k (.int 1))) (.bin .Mult (.blt .len (.cons (.v 3) .nil)) (.bin .FloorDiv (.bin .Add (.v 6) (.k (.int 1))) (.blt .len (.cons (.v 3) .nil)))))) .nil)))) (.cons (.ite (.and (.cmp .NotEq (.ix (.v 8) (.k (.int 0))) (.ix (.v 8) (.k (.int 1)))) (.cmp .Lt (.blt .len (.cons (.v 5) .nil)) (.v 2))) (.cons (.put 5 (.blt .tuple (.cons (.blt .sorted (.cons (.v 8) .nil)) .nil)) (.k (.bl true))) .nil) (.nil)) .nil)
abbrev sE : S := .cons (.ite (.and (.cmp .NotEq (.v 4) (.lst (.nil))) (.cmp .Lt (.blt .len (.cons (.v 5) .nil)) (.v 2))) (.cons (.put 5 (.call 199 (.cons (.v 0) (.cons (.v 4) .nil))) (.k (.bl true))) .nil) (.nil)) .nil
abbrev eT (b : Bowl) (most m2 : Int) (pl : List Str) (x4 : SV) (ps : List (Str × Str)) (x6 x8 x9 : Option SV) : Env := [some (.m false (Bw b)), some (.d (.int most)), some (.d (.int m2)), some (.d (dSs pl)), some x4, some (.m true (fM ps)), x6, none, x8, x9, none]
section
variable {P : PI} {cd : Nat → Option Code} (s : ShB P cd)
include s
theorem stepC (n : Nat) (b : Bowl) (most m2 : Int) (pl : List Str) (ha : AscS pl) (hl8 : pl.length ≤ 8) (pairs : List (Str × Str)) (hp : ∀ p ∈ pairs, p.1 ∈ pl ∧ p.2 ∈ pl ∧ sl p.1 p.2) (hpl : pairs.length ≤ 1000) (ps : List (Str × Str)) (i : Nat) (hi : i < pl.length) (x8 x9 : Option SV) :
    ∃ pairs' : List (Str × Str), (∀ p ∈ pairs', p.1 ∈ pl ∧ p.2 ∈ pl ∧ sl p.1 p.2) ∧ pairs'.length ≤ pairs.length + 8 ∧
      denS P (runC P cd n) sC (eT b most m2 pl (.m true (.l (pairs.map dP))) ps (some (.d (.int i))) x8 x9) = .nx (eT b most m2 pl (.m true (.l (pairs'.map dP))) ps (some (.d (.int i))) x8 x9) := by
  obtain ⟨x, hx, hx1, hx2⟩ := atI_map D.str pl i (by omega) (by omega)
  have hx1 : pl[i]? = some x := hx1
  have hx2 : ixs (dSs pl) (.int i) = some (.str x) := hx2
  have hcut : cutL (pl.map D.str) (some ((i : Int) + 1)) none = (pl.drop (i + 1)).map D.str := by
    unfold cutL
    have : HT.sIx (pl.map D.str).length 0 (some ((i : Int) + 1)) = i + 1 := by
      have := HT.sIx_nat (pl.map D.str).length 0 (i + 1)
      rw [List.length_map] at *
      have e : (((i + 1 : Nat) : Int)) = (i : Int) + 1 := by omega
      rw [e] at this
      rw [this]
      omega
    rw [this, HT.sIx_none, List.map_drop]
    exact List.take_of_length_le (by rw [List.length_drop]; omega)
  have hdl : (pl.drop (i + 1)).length ≤ 8 := by rw [List.length_drop]; omega
  have hS : (2000 : Nat) ≤ SL := by decide
  have hc : compG P (runC P cd n) [7] [7] false .nil (.tup (.cons (.ix (.v 3) (.v 6)) (.cons (.v 7) .nil))) ((pl.drop (i + 1)).map D.str) (eT b most m2 pl (.m true (.l (pairs.map dP))) ps (some (.d (.int i))) x8 x9) = .ok (.n (.l ((((pl.drop (i + 1)).map fun y => (x, y))).map dP))) (eT b most m2 pl (.m true (.l (pairs.map dP))) ps (some (.d (.int i))) x8 x9) := by
    unfold compG
    rw [compF_pure (fun d => .tup [.str x, d]) (fun _ => true) (by rfl) (by rw [List.length_map]; omega)]
    · rw [List.filter_eq_self.mpr (fun _ _ => rfl), List.map_map, List.map_map]
      rfl
    · intro y hy
      obtain ⟨c, hc, rfl⟩ := List.mem_map.mp hy
      refine ⟨[some (.m false (Bw b)), some (.d (.int most)), some (.d (.int m2)), some (.d (dSs pl)), some (.m true (.l (pairs.map dP))), some (.m true (fM ps)), some (.d (.int i)), some (.d (.str c)), x8, x9, none], rfl, rfl, fun _ => ?_, rfl⟩
      simp [hx2]
  refine ⟨pairs ++ (pl.drop (i + 1)).map fun y => (x, y), ?_, by rw [List.length_append, List.length_map]; omega, ?_⟩
  · intro p hp'
    rcases List.mem_append.mp hp' with h | h
    · exact hp p h
    · obtain ⟨y, hy, rfl⟩ := List.mem_map.mp h
      refine ⟨hx, List.mem_of_mem_drop hy, ?_⟩
      obtain ⟨j, hj, ej⟩ := List.mem_iff_getElem.mp hy
      rw [List.getElem_drop] at ej
      obtain ⟨hi', ei⟩ := List.getElem?_eq_some_iff.mp hx1
      rw [← ej, ← ei]
      exact List.pairwise_iff_getElem.mp ha i (i + 1 + j) hi' (by rw [List.length_drop] at hj; omega) (by omega)
  · have e3 : bins .Add (.lst (pairs.map dP)) (.lst ((((pl.drop (i + 1)).map fun y => (x, y))).map dP)) = some (.n (.l ((pairs ++ (pl.drop (i + 1)).map fun y => (x, y)).map dP))) := by
      rw [bins_addL, if_pos (by rw [List.length_map, List.length_map, List.length_map]; omega), List.map_append]
    have e4 : sls (dSs pl) (some ((i : Int) + 1)) none = some (.d (.tup ((pl.drop (i + 1)).map D.str))) := by
      show some (RV.d (.tup (cutL (pl.map D.str) _ _))) = _
      rw [hcut]
    have e5 : iter .seq [.tup ((pl.drop (i + 1)).map D.str)] = some ((pl.drop (i + 1)).map D.str) := rfl
    simp only [denS_cons, denS_asg, den_bin, op2_v, den_v, vDen_v, List.getElem?_cons_succ, List.getElem?_cons_zero, bind_ok', den_comp, den_cons, den_sl, isNil, partOf, bins_add, view_d, Option.bind_some, opt_some', den_k, den_nil, e4, toDs_cons', toDs_nil, toD_d, e5, hc, view_sl, viewX_m, fz_l, view_n, e3, toO_ok', svOf_n, setS_eq, setX_fr _ _ (fr_m _), O_of_some, List.set_cons_succ, List.set_cons_zero, denS_nil]
end
end Hr
end Fl
set_option Elab.async false
set_option linter.all false
set_option maxRecDepth 100000
set_option maxHeartbeats 0
/-! Layer H, part 8b: drawn towns, whole. -/
namespace Fl
namespace Hr
open PySem PySem.Spec PyProof.Rows L2
section
variable {P : PI} {cd : Nat → Option Code} (s : ShB P cd)
include s
theorem stepD1 (n : Nat) (b : Bowl) (most m2 : Int) (pl : List Str) (hl8 : pl.length ≤ 8) (x4 : SV) (ps : List (Str × Str)) (i : Nat) (hi : i < pl.length) (x8 x9 : Option SV) (h8 : Fr x8) (x y : Str) (j : Int) (ej : (i : Int) + 1 - pl.length * (((i : Int) + 1) / pl.length) = j) (hx2 : ixs (dSs pl) (.int i) = some (.str x)) (hy2 : ixs (dSs pl) (.int j) = some (.str y)) :
    denS P (runC P cd n) (.asg 8 (.tup (.cons (.ix (.v 3) (.v 6)) (.cons (.ix (.v 3) (.bin .Sub (.bin .Add (.v 6) (.k (.int 1))) (.bin .Mult (.blt .len (.cons (.v 3) .nil)) (.bin .FloorDiv (.bin .Add (.v 6) (.k (.int 1))) (.blt .len (.cons (.v 3) .nil)))))) .nil)))) (eT b most m2 pl x4 ps (some (.d (.int i))) x8 x9) = .nx (eT b most m2 pl x4 ps (some (.d (.int i))) (some (.d (.tup [.str x, .str y]))) x9) := by
  have c1 : 0 < (pl.length : Int) ∧ (pl.length : Int) < 1073741824 := by omega
  have c2 : (-18446744073709551616 < (pl.length : Int) ∧ (pl.length : Int) < 18446744073709551616) ∨ (-18446744073709551616 < ((i : Int) + 1) / pl.length ∧ ((i : Int) + 1) / pl.length < 18446744073709551616) := by left; omega
  have d1 : bins .FloorDiv (.int ((i : Int) + 1)) (.int pl.length) = some (.d (.int (((i : Int) + 1) / pl.length))) := by rw [bins_div, if_pos c1]
  have d2 : bins .Mult (.int pl.length) (.int (((i : Int) + 1) / pl.length)) = some (.d (.int (pl.length * (((i : Int) + 1) / pl.length)))) := by rw [bins_mul, if_pos c2]
  have d3 : bins .Sub (.int ((i : Int) + 1)) (.int (pl.length * (((i : Int) + 1) / pl.length))) = some (.d (.int j)) := by rw [bins_sub, ej]
  simp only [denS_asg, den_tup, den_cons, den_nil, den_ix, den_bin, den_blt, opL_v, op2_v, den_v, den_k, vDen_v, List.getElem?_cons_succ, List.getElem?_cons_zero, bind_ok', view_d, views_cons, views_nil, obs, hx2, oms, opt_some', blt_lenT, List.length_map, bins_add, d1, d2, d3, hy2, toDs_cons', toDs_nil, toD_d, List.length_cons, List.length_nil, Nat.zero_add, Nat.reduceAdd, le_SL2, if_true, toO_ok', svOf_d, setS_eq, setX_fr _ _ h8, O_of_some, List.set_cons_succ, List.set_cons_zero]
theorem stepD (n : Nat) (b : Bowl) (most m2 : Int) (pl : List Str) (hl8 : pl.length ≤ 8) (x4 : SV) (ps : List (Str × Str)) (hp : FP pl ps) (hl : (ps.length : Int) ≤ m2) (hm : m2 ≤ 1000) (i : Nat) (hi : i < pl.length) (x8 x9 : Option SV) (h8 : Fr x8) :
    ∃ (ps' : List (Str × Str)) (y8 : Option SV), FP pl ps' ∧ (ps'.length : Int) ≤ m2 ∧ Fr y8 ∧
      denS P (runC P cd n) sD (eT b most m2 pl x4 ps (some (.d (.int i))) x8 x9) = .nx (eT b most m2 pl x4 ps' (some (.d (.int i))) y8 x9) := by
  obtain ⟨x, hx, hx1, hx2⟩ := atI_map D.str pl i (by omega) (by omega)
  have hx2 : ixs (dSs pl) (.int i) = some (.str x) := hx2
  have hpos : 0 < (pl.length : Int) := by omega
  obtain ⟨j, ej, hj⟩ : ∃ j, (i : Int) + 1 - pl.length * (((i : Int) + 1) / pl.length) = j ∧ 0 ≤ j ∧ j < pl.length := by
    have h1 := Int.emod_nonneg ((i : Int) + 1) (b := (pl.length : Int)) (by omega)
    have h2 := Int.emod_lt_of_pos ((i : Int) + 1) hpos
    rw [Int.emod_def] at h1 h2
    exact ⟨_, rfl, h1, h2⟩
  obtain ⟨y, hy, hy1, hy2⟩ := atI_map D.str pl j hj.1 hj.2
  have h1 := stepD1 s n b most m2 pl hl8 x4 ps i hi x8 x9 h8 x y j ej hx2 hy2
  clear hy2 hy1 hx1 hj ej
  have hne : eqD (.str x) (.str y) = some (decide (x = y)) := emb_str.eqD (by omega) x y
  suffices h2 : ∃ ps' : List (Str × Str), FP pl ps' ∧ (ps'.length : Int) ≤ m2 ∧ denS P (runC P cd n) (.cons (.ite (.and (.cmp .NotEq (.ix (.v 8) (.k (.int 0))) (.ix (.v 8) (.k (.int 1)))) (.cmp .Lt (.blt .len (.cons (.v 5) .nil)) (.v 2))) (.cons (.put 5 (.blt .tuple (.cons (.blt .sorted (.cons (.v 8) .nil)) .nil)) (.k (.bl true))) .nil) (.nil)) .nil) (eT b most m2 pl x4 ps (some (.d (.int i))) (some (.d (.tup [.str x, .str y]))) x9) = .nx (eT b most m2 pl x4 ps' (some (.d (.int i))) (some (.d (.tup [.str x, .str y]))) x9) by
    obtain ⟨ps', p1, p2, p3⟩ := h2
    refine ⟨ps', some (.d (.tup [.str x, .str y])), p1, p2, fr_d _, ?_⟩
    rw [denS_cons, h1]
    exact p3
  by_cases hxy : x = y
  · refine ⟨ps, hp, hl, ?_⟩
    simp [cmps, hne, hxy]
    rw [emb_str.eqD (by omega)]
    simp
  · obtain ⟨u, v, huv, huvc, es⟩ := sort_two hxy
    have hbs : blt .sorted [.tup [.str x, .str y]] = some (.n (.l [.str u, .str v])) := by
      have : blt .sorted [.tup [.str x, .str y]] = (sortL [.str x, .str y]).map fun ys => .n (.l ys) := rfl
      rw [this, es]
      rfl
    have hbt : blt .tuple [.lst [.str u, .str v]] = some (.d (.tup [.str u, .str v])) := rfl
    have hlp := len_P ps
    by_cases hm2 : (ps.length : Int) < m2
    · have hput := put_P ps (u, v) (by have : (2000 : Nat) ≤ SL := by decide
                                       omega)
      have huvm : u ∈ pl ∧ v ∈ pl ∧ sl u v := by
        rcases huvc with ⟨rfl, rfl⟩ | ⟨rfl, rfl⟩
        · exact ⟨hx, hy, huv⟩
        · exact ⟨hy, hx, huv⟩
      refine ⟨addP ps (u, v), hp.add huvm, by have := addP_len ps (u, v); omega, ?_⟩
      simp [cmps, hne, hxy, hlp, hm2, hbs, hbt, putS, hput]
    · refine ⟨ps, hp, hl, ?_⟩
      simp [cmps, hne, hxy, hlp, hm2]
/-- the pairs: an own list, or at rest -/
def isPairs (pairs : List (Str × Str)) (x : SV) : Prop := x = .m true (.l (pairs.map dP)) ∨ x = .d (.lst (pairs.map dP))
theorem stepE (n : Nat) (b : Bowl) (most m2 : Int) (pl : List Str) (pairs : List (Str × Str)) (hpp : ∀ p ∈ pairs, p.1 ∈ pl ∧ p.2 ∈ pl ∧ sl p.1 p.2) (hpl : pairs.length ≤ 1000) (x4 : SV) (h4 : isPairs pairs x4) (ps : List (Str × Str)) (hp : FP pl ps) (hl : (ps.length : Int) ≤ m2) (hm : m2 ≤ 1000) (x6 x8 x9 : Option SV) :
    ∃ (b' : Bowl) (y4 : SV) (ps' : List (Str × Str)), isPairs pairs y4 ∧ FP pl ps' ∧ (ps'.length : Int) ≤ m2 ∧
      denS P (runC P cd (n + 2)) sE (eT b most m2 pl x4 ps x6 x8 x9) = .nx (eT b' most m2 pl y4 ps' x6 x8 x9) := by
  have hS : (2000 : Nat) ≤ SL := by decide
  have hlp := len_P ps
  have hne : eqD (.lst (pairs.map dP)) (.lst []) = some (decide (pairs = [])) := emb_P.lst.eqD (by omega) pairs []
  have hb := callN_ref (P := P) (call := runC P cd (n + 2)) (caps := []) rfl (s.b0 199 (by simp)) (s.bs 199 (by simp))
  by_cases hn : pairs = []
  · refine ⟨b, x4, ps, h4, hp, hl, ?_⟩
    subst hn
    have hne : eqD (.lst []) (.lst []) = some true := hne
    rcases h4 with rfl | rfl <;> simp [cmps, hne]
  · by_cases hm2 : (ps.length : Int) < m2
    · obtain ⟨p, b', hpm, e⟩ := of_ok s n b dP (v := .lst (pairs.map dP)) (.inr rfl) hn (by omega)
      have hput := put_P ps p (by omega)
      refine ⟨b', .d (.lst (pairs.map dP)), addP ps p, .inr rfl, hp.add (hpp p hpm), by have := addP_len ps p; omega, ?_⟩
      rcases h4 with rfl | rfl <;> simp [cmps, hne, hn, hlp, hm2, hb, e, putS, hput]
    · refine ⟨b, x4, ps, h4, hp, hl, ?_⟩
      rcases h4 with rfl | rfl <;> simp [cmps, hne, hn, hlp, hm2]
end
end Hr
end Fl
set_option Elab.async false
set_option linter.all false
set_option maxRecDepth 100000
set_option maxHeartbeats 0
/-! Layer H, part 8c: drawn towns, whole. -/
namespace Fl
namespace Hr
open PySem PySem.Spec PyProof.Rows L2
section
variable {P : PI} {cd : Nat → Option Code} (s : ShB P cd)
include s
theorem bind6 (b : Bowl) (most m2 : Int) (pl : List Str) (x4 : SV) (ps : List (Str × Str)) (x6 x8 x9 : Option SV) (h6 : Fr x6) (i : Int) : bindT [6] false (.int i) (eT b most m2 pl x4 ps x6 x8 x9) = some (eT b most m2 pl x4 ps (some (.d (.int i))) x8 x9) := by
  simp only [eT, bindT_one, setAll_cons, setAll_nil, setS_eq, List.getElem?_cons_succ, List.getElem?_cons_zero, setX_fr _ _ h6, obs, List.set_cons_succ, List.set_cons_zero]
theorem bind9 (b : Bowl) (most m2 : Int) (pl : List Str) (x4 : SV) (ps : List (Str × Str)) (x6 x8 x9 : Option SV) (h9 : Fr x9) (i : Int) : bindT [9] false (.int i) (eT b most m2 pl x4 ps x6 x8 x9) = some (eT b most m2 pl x4 ps x6 x8 (some (.d (.int i)))) := by
  simp only [eT, bindT_one, setAll_cons, setAll_nil, setS_eq, List.getElem?_cons_succ, List.getElem?_cons_zero, setX_fr _ _ h9, obs, List.set_cons_succ, List.set_cons_zero]
theorem loopC (n : Nat) (b : Bowl) (most m2 : Int) (pl : List Str) (ha : AscS pl) (hl8 : pl.length ≤ 8) (ps : List (Str × Str)) (x8 x9 : Option SV) : ∀ (xs : List D) (pairs : List (Str × Str)) (x6 : Option SV), (∀ d ∈ xs, ∃ i : Nat, i < pl.length ∧ d = .int i) → Fr x6 → (∀ p ∈ pairs, p.1 ∈ pl ∧ p.2 ∈ pl ∧ sl p.1 p.2) → pairs.length + 8 * xs.length ≤ 1000 →
    ∃ (pairs' : List (Str × Str)) (y6 : Option SV), Fr y6 ∧ (∀ p ∈ pairs', p.1 ∈ pl ∧ p.2 ∈ pl ∧ sl p.1 p.2) ∧ pairs'.length ≤ 1000 ∧
      forG P (runC P cd n) [6] false sC xs (eT b most m2 pl (.m true (.l (pairs.map dP))) ps x6 x8 x9) = .nx (eT b most m2 pl (.m true (.l (pairs'.map dP))) ps y6 x8 x9)
  | [], pairs, x6, _, h6, hp, hl => ⟨pairs, x6, h6, hp, by omega, rfl⟩
  | d :: xs, pairs, x6, hd, h6, hp, hl => by
    obtain ⟨i, hi, rfl⟩ := hd d (List.mem_cons_self ..)
    rw [List.length_cons] at hl
    obtain ⟨p1, q1, q2, e1⟩ := stepC s n b most m2 pl ha hl8 pairs hp (by omega) ps i hi x8 x9
    obtain ⟨p2, y6, f6, q3, q4, e2⟩ := loopC n b most m2 pl ha hl8 ps x8 x9 xs p1 (some (.d (.int i))) (fun d h => hd d (List.mem_cons_of_mem _ h)) (fr_d _) q1 (by omega)
    refine ⟨p2, y6, f6, q3, q4, ?_⟩
    show forRun [6] false _ (.int i :: xs) _ = _
    unfold forRun
    rw [bind6 s b most m2 pl _ ps x6 x8 x9 h6 i]
    dsimp only
    rw [e1]
    exact e2
theorem loopD (n : Nat) (b : Bowl) (most m2 : Int) (pl : List Str) (hl8 : pl.length ≤ 8) (x4 : SV) (x9 : Option SV) (hm : m2 ≤ 1000) : ∀ (xs : List D) (ps : List (Str × Str)) (x6 x8 : Option SV), (∀ d ∈ xs, ∃ i : Nat, i < pl.length ∧ d = .int i) → Fr x6 → Fr x8 → FP pl ps → (ps.length : Int) ≤ m2 →
    ∃ (ps' : List (Str × Str)) (y6 y8 : Option SV), Fr y6 ∧ Fr y8 ∧ FP pl ps' ∧ (ps'.length : Int) ≤ m2 ∧
      forG P (runC P cd n) [6] false sD xs (eT b most m2 pl x4 ps x6 x8 x9) = .nx (eT b most m2 pl x4 ps' y6 y8 x9)
  | [], ps, x6, x8, _, h6, h8, hp, hl => ⟨ps, x6, x8, h6, h8, hp, hl, rfl⟩
  | d :: xs, ps, x6, x8, hd, h6, h8, hp, hl => by
    obtain ⟨i, hi, rfl⟩ := hd d (List.mem_cons_self ..)
    obtain ⟨p1, z8, q1, q2, g8, e1⟩ := stepD s n b most m2 pl hl8 x4 ps hp hl hm i hi x8 x9 h8
    obtain ⟨p2, y6, y8, f6, f8, q3, q4, e2⟩ := loopD n b most m2 pl hl8 x4 x9 hm xs p1 (some (.d (.int i))) z8 (fun d h => hd d (List.mem_cons_of_mem _ h)) (fr_d _) g8 q1 q2
    refine ⟨p2, y6, y8, f6, f8, q3, q4, ?_⟩
    show forRun [6] false _ (.int i :: xs) _ = _
    unfold forRun
    rw [bind6 s b most m2 pl _ ps x6 x8 x9 h6 i]
    dsimp only
    rw [e1]
    exact e2
theorem loopE (n : Nat) (most m2 : Int) (pl : List Str) (pairs : List (Str × Str)) (hpp : ∀ p ∈ pairs, p.1 ∈ pl ∧ p.2 ∈ pl ∧ sl p.1 p.2) (hpl : pairs.length ≤ 1000) (hm : m2 ≤ 1000) (x6 x8 : Option SV) : ∀ (xs : List D) (b : Bowl) (x4 : SV) (ps : List (Str × Str)) (x9 : Option SV), (∀ d ∈ xs, ∃ i : Int, d = .int i) → Fr x9 → isPairs pairs x4 → FP pl ps → (ps.length : Int) ≤ m2 →
    ∃ (b' : Bowl) (y4 : SV) (ps' : List (Str × Str)) (y9 : Option SV), FP pl ps' ∧ (ps'.length : Int) ≤ m2 ∧
      forG P (runC P cd (n + 2)) [9] false sE xs (eT b most m2 pl x4 ps x6 x8 x9) = .nx (eT b' most m2 pl y4 ps' x6 x8 y9)
  | [], b, x4, ps, x9, _, h9, h4, hp, hl => ⟨b, x4, ps, x9, hp, hl, rfl⟩
  | d :: xs, b, x4, ps, x9, hd, h9, h4, hp, hl => by
    obtain ⟨i, rfl⟩ := hd d (List.mem_cons_self ..)
    obtain ⟨b1, y4, p1, g4, q1, q2, e1⟩ := stepE s n b most m2 pl pairs hpp hpl x4 h4 ps hp hl hm x6 x8 (some (.d (.int i)))
    obtain ⟨b2, z4, p2, y9, q3, q4, e2⟩ := loopE n most m2 pl pairs hpp hpl hm x6 x8 xs b1 y4 p1 (some (.d (.int i))) (fun d h => hd d (List.mem_cons_of_mem _ h)) (fr_d _) g4 q1 q2
    refine ⟨b2, z4, p2, y9, q3, q4, ?_⟩
    show forRun [9] false _ (.int i :: xs) _ = _
    unfold forRun
    rw [bind9 s b most m2 pl _ ps x6 x8 x9 h9 i]
    dsimp only
    rw [e1]
    exact e2
abbrev sT1 : S := .for_ [6] false .range (.cons (.blt .len (.cons (.v 3) .nil)) .nil) sC
abbrev sT2 : S := .ite (.cmp .Gt (.call 198 (.cons (.v 0) (.cons (.k (.int 3)) .nil))) (.k (.int 0))) (.cons (.for_ [6] false .range (.cons (.blt .len (.cons (.v 3) .nil)) .nil) sD) .nil) (.nil)
abbrev sT3 : S := .for_ [9] false .range (.cons (.call 198 (.cons (.v 0) (.cons (.v 2) .nil))) .nil) sE
abbrev sT4 : S := .asg 10 (.blt .sorted (.cons (.blt .list (.cons (.v 5) .nil)) .nil))
abbrev sT5 : S := .ite (.and (.cmp .NotEq (.v 10) (.lst (.nil))) (.cmp .Eq (.call 198 (.cons (.v 0) (.cons (.k (.int 3)) .nil))) (.k (.int 0)))) (.cons (.exp (.mthM .pop 10 (.cons (.call 198 (.cons (.v 0) (.cons (.blt .len (.cons (.v 10) .nil)) .nil))) .nil))) .nil) (.nil)
theorem range_len (k : Nat) (hk : k ≤ 1000) : iter .range [.int k] = some (rngD 0 k) := by
  have : sm62 (k : Int) = true := by unfold sm62; exact decide_eq_true (by omega)
  simp [iter, this]
theorem rng_nat {k : Nat} {d : D} (h : d ∈ rngD 0 k) : ∃ i : Nat, i < k ∧ d = .int i := by
  obtain ⟨i, hi, e⟩ := rngD_mem h
  exact ⟨i, hi, by rw [e]; congr 1; omega⟩
theorem town_ok (n : Nat) (b : Bowl) {most m2 : Int} (h1 : 1 ≤ most) (h8 : most ≤ 8) (k1 : 1 ≤ m2) (k2 : m2 ≤ 14) : ∃ (b' : Bowl) (pl : List Str) (ss : List (Str × Str)), TownOk pl ss ∧ (pl.length : Int) ≤ most ∧ (ss.length : Int) ≤ m2 ∧
    runC P cd (n + 4) 203 [] [.m false (Bw b), .d (.int most), .d (.int m2)] = .ok (.d (dParts pl ss)) [.m false (Bw b'), .d .non, .d .non] := by
  have hb8 := callN_ref (P := P) (call := runC P cd (n + 3)) (caps := []) rfl (s.b0 198 (by simp)) (s.bs 198 (by simp))
  have hb2 := callN_ref (P := P) (call := runC P cd (n + 3)) (caps := []) rfl (s.b0 202 (by simp)) (s.bs 202 (by simp))
  have hS : (2000 : Nat) ≤ SL := by decide
  -- places
  obtain ⟨r, b1, r0, r1, e1⟩ := draw_ok s (n + 2) b (m := most) (by omega) (by omega)
  obtain ⟨b2, pl, hlen, hnm, hasc, e2⟩ := names_ok s n b1 (m := 1 + r) (by omega) (by omega)
  have hl1 : 1 ≤ pl.length := by omega
  have hl8 : pl.length ≤ 8 := by omega
  have a1 : denS P (runC P cd (n + 3)) (.asg 3 (.call 202 (.cons (.v 0) (.cons (.bin .Add (.k (.int 1)) (.call 198 (.cons (.v 0) (.cons (.v 1) .nil)))) .nil)))) [some (.m false (Bw b)), some (.d (.int most)), some (.d (.int m2)), none, none, none, none, none, none, none, none] =
      .nx [some (.m false (Bw b2)), some (.d (.int most)), some (.d (.int m2)), some (.d (dSs pl)), none, none, none, none, none, none, none] := by
    simp only [denS_asg, den_call, den_cons, den_nil, den_bin, op2_v, den_v, den_k, vDen_v, List.getElem?_cons_succ, List.getElem?_cons_zero, bind_ok', hb8, toDs_cons', toDs_nil, toD_d, List.map_cons, List.map_nil, e1, backB_ok, List.set_cons_zero, view_d, obs, bins_add, opt_some', hb2, e2, toO_ok', svOf_d, setS_eq, setX_fr _ _ fr_none, O_of_some, List.set_cons_succ]
  have a2 : denS P (runC P cd (n + 3)) (.par [4, 5] (.cons (.lst (.nil)) (.cons (.dnew) .nil))) [some (.m false (Bw b2)), some (.d (.int most)), some (.d (.int m2)), some (.d (dSs pl)), none, none, none, none, none, none, none] =
      .nx (eT b2 most m2 pl (.m true (.l [])) [] none none none) := by
    have hpar : ∀ (ρ : Env), parAll [4, 5] [.n (.l []), .n (.k [])] ρ = (setS 4 (.m true (.l [])) ρ).bind fun ρ1 => (setS 5 (.m true (.k [])) ρ1).bind fun ρ2 => some ρ2 := fun _ => rfl
    simp only [denS_par, den_cons, den_nil, den_lst, den_dnew, vDen_v, bind_ok', toDs_nil, List.length_nil, Nat.zero_le, if_true, toO_ok', hpar, setS_eq, List.getElem?_cons_succ, List.getElem?_cons_zero, setX_fr _ _ fr_none, obs, List.set_cons_succ, List.set_cons_zero, O_of_some]
    rfl
  have hit := range_len s pl.length (by omega)
  obtain ⟨pairs, y6, f6, hpp, hpl, e3⟩ := loopC s (n + 3) b2 most m2 pl hasc hl8 [] none none (rngD 0 pl.length) [] none (fun d h => rng_nat s h) fr_none (fun _ h => nomatch h) (by rw [rngD_len]; show 0 + _ ≤ _; omega)
  have a3 : denS P (runC P cd (n + 3)) sT1 (eT b2 most m2 pl (.m true (.l [])) [] none none none) = .nx (eT b2 most m2 pl (.m true (.l (pairs.map dP))) [] y6 none none) := by
    have e3' : forG P (runC P cd (n + 3)) [6] false sC (rngD 0 pl.length) (eT b2 most m2 pl (.m true (.l [])) [] none none none) = _ := e3
    simp only [denS_for_, den_cons, den_nil, den_blt, opL_v, den_v, vDen_v, List.getElem?_cons_succ, List.getElem?_cons_zero, bind_ok', views_cons, views_nil, view_d, obs, blt_lenT, List.length_map, opt_some', toDs_cons', toDs_nil, toD_d, hit, toO_ok', e3']
  -- the ring
  obtain ⟨r3, b3, r30, r31, e4⟩ := draw_ok s (n + 2) b2 (m := 3) (by omega) (by omega)
  have c4 : (den P (runC P cd (n + 3)) (.cmp .Gt (.call 198 (.cons (.v 0) (.cons (.k (.int 3)) .nil))) (.k (.int 0)))).t (eT b2 most m2 pl (.m true (.l (pairs.map dP))) [] y6 none none) = .ok (decide (0 < r3)) (eT b3 most m2 pl (.m true (.l (pairs.map dP))) [] y6 none none) := by
    have hgt : cmps .Gt (.int r3) (.int 0) = some (decide (0 < r3)) := rfl
    simp only [den_cmp, vDen_t, den_call, den_cons, den_nil, den_v, den_k, vDen_v, List.getElem?_cons_zero, bind_ok', hb8, toDs_cons', toDs_nil, toD_d, List.map_cons, List.map_nil, e4, backB_ok, List.set_cons_zero, view_d, obs, oms, hgt, opt_some', truth_bl]
  have a4 : ∃ (ps : List (Str × Str)) (z6 z8 : Option SV), Fr z6 ∧ Fr z8 ∧ FP pl ps ∧ (ps.length : Int) ≤ m2 ∧ denS P (runC P cd (n + 3)) sT2 (eT b2 most m2 pl (.m true (.l (pairs.map dP))) [] y6 none none) = .nx (eT b3 most m2 pl (.m true (.l (pairs.map dP))) ps z6 z8 none) := by
    by_cases hr : 0 < r3
    · obtain ⟨ps, z6, z8, g6, g8, q1, q2, e5⟩ := loopD s (n + 3) b3 most m2 pl hl8 (.m true (.l (pairs.map dP))) none (by omega) (rngD 0 pl.length) [] y6 none (fun d h => rng_nat s h) f6 fr_none (FP.nil pl) (by show (0 : Int) ≤ m2; omega)
      refine ⟨ps, z6, z8, g6, g8, q1, q2, ?_⟩
      have hfor : denS P (runC P cd (n + 3)) (.for_ [6] false .range (.cons (.blt .len (.cons (.v 3) .nil)) .nil) sD) (eT b3 most m2 pl (.m true (.l (pairs.map dP))) [] y6 none none) = .nx (eT b3 most m2 pl (.m true (.l (pairs.map dP))) ps z6 z8 none) := by
        simp only [denS_for_, den_cons, den_nil, den_blt, opL_v, den_v, vDen_v, List.getElem?_cons_succ, List.getElem?_cons_zero, bind_ok', views_cons, views_nil, view_d, obs, blt_lenT, List.length_map, opt_some', toDs_cons', toDs_nil, toD_d, hit, toO_ok', e5]
      rw [denS_ite, c4, decide_eq_true hr, toO_ok', denS_cons, hfor]
      rfl
    · refine ⟨[], y6, none, f6, fr_none, FP.nil pl, (by show (0 : Int) ≤ m2; omega), ?_⟩
      rw [denS_ite, c4, decide_eq_false hr]
      rfl
  obtain ⟨ps, z6, z8, g6, g8, q1, q2, a4⟩ := a4
  -- some more
  obtain ⟨r4, b4, r40, r41, e6⟩ := draw_ok s (n + 2) b3 (m := m2) (by omega) (by omega)
  have hit4 : iter .range [.int r4] = some (rngD 0 r4.toNat) := by
    have := range_len s r4.toNat (by omega)
    rw [Int.toNat_of_nonneg r40] at this
    exact this
  obtain ⟨b5, y4, ps', y9, q3, q4, e7⟩ := loopE s (n + 1) most m2 pl pairs hpp hpl (by omega) z6 z8 (rngD 0 r4.toNat) b4 (.m true (.l (pairs.map dP))) ps none (fun d h => by obtain ⟨i, _, e⟩ := rngD_mem h; exact ⟨_, e⟩) fr_none (.inl rfl) q1 q2
  have a5 : denS P (runC P cd (n + 3)) sT3 (eT b3 most m2 pl (.m true (.l (pairs.map dP))) ps z6 z8 none) = .nx (eT b5 most m2 pl y4 ps' z6 z8 y9) := by
    simp only [denS_for_, den_cons, den_nil, den_call, den_v, vDen_v, List.getElem?_cons_succ, List.getElem?_cons_zero, bind_ok', hb8, toDs_cons', toDs_nil, toD_d, List.map_cons, List.map_nil, e6, backB_ok, List.set_cons_zero, obs, opt_some', hit4, toO_ok', e7]
  obtain ⟨zs, es, pz, wz⟩ := sort_Ps ps' (by omega)
  have hlp := list_P ps'
  have hzs : blt .sorted [.lst (ps'.map dP)] = some (.n (.l (zs.map dP))) := by
    have : blt .sorted [.lst (ps'.map dP)] = (sortL (ps'.map dP)).map fun ys => .n (.l ys) := rfl
    rw [this, es]
    rfl
  have a6 : denS P (runC P cd (n + 3)) sT4 (eT b5 most m2 pl y4 ps' z6 z8 y9) = .nx [some (.m false (Bw b5)), some (.d (.int most)), some (.d (.int m2)), some (.d (dSs pl)), some y4, some (.m true (fM ps')), z6, none, z8, y9, some (.m true (.l (zs.map dP)))] := by
    simp only [denS_asg, den_blt, den_cons, den_nil, opL_v, den_v, vDen_v, List.getElem?_cons_succ, List.getElem?_cons_zero, bind_ok', views_cons, views_nil, view_sl, viewX_m, obs, hlp, opt_some', view_n, fz_l, hzs, toO_ok', svOf_n, setS_eq, setX_fr _ _ fr_none, O_of_some, List.set_cons_succ, List.set_cons_zero]
  have zasc : AscP zs := asc_of (fun h h' => pl_tri h h') wz (pz.nodup_iff.mpr q3.nd)
  have zmem : ∀ p ∈ zs, p.1 ∈ pl ∧ p.2 ∈ pl ∧ sl p.1 p.2 := fun p hp => q3.mem p (pz.mem_iff.mp hp)
  have zlen : (zs.length : Int) ≤ m2 := by rw [pz.length_eq]; exact q4
  -- one taken away
  have a7 : ∃ (b6 : Bowl) (ws : List (Str × Str)), ws.Sublist zs ∧ denS P (runC P cd (n + 3)) sT5 [some (.m false (Bw b5)), some (.d (.int most)), some (.d (.int m2)), some (.d (dSs pl)), some y4, some (.m true (fM ps')), z6, none, z8, y9, some (.m true (.l (zs.map dP)))] =
      .nx [some (.m false (Bw b6)), some (.d (.int most)), some (.d (.int m2)), some (.d (dSs pl)), some y4, some (.m true (fM ps')), z6, none, z8, y9, some (.m true (.l (ws.map dP)))] := by
    have hne : cmps .NotEq (.lst (zs.map dP)) (.lst []) = some (!decide (zs = [])) := by
      have : eqD (.lst (zs.map dP)) (.lst []) = some (decide (zs = [])) := emb_P.lst.eqD (by omega) zs []
      show (eqD (.lst (zs.map dP)) (.lst [])).map _ = _
      rw [this]
      rfl
    by_cases hz : zs = []
    · refine ⟨b5, zs, List.Sublist.refl _, ?_⟩
      rw [decide_eq_true hz] at hne
      simp only [denS_ite, den_and, den_cmp, vDen_t, den_v, den_lst, den_nil, vDen_v, List.getElem?_cons_succ, List.getElem?_cons_zero, bind_ok', toDs_nil, List.length_nil, Nat.zero_le, if_true, view_sl, viewX_m, fz_l, view_n, obs, oms, hne, Bool.not_true, opt_some', truth_bl, view_d, toO_ok', denS_nil]
    · obtain ⟨r5, b6, r50, r51, e8⟩ := draw_ok s (n + 2) b5 (m := 3) (by omega) (by omega)
      rw [decide_eq_false hz] at hne
      by_cases hr : r5 = 0
      · have hzl : 0 < zs.length := List.length_pos_iff.mpr hz
        obtain ⟨r6, b7, r60, r61, e9⟩ := draw_ok s (n + 2) b6 (m := (zs.length : Int)) (by omega) (by omega)
        have heq : cmps .Eq (.int r5) (.int 0) = some true := by rw [cmps_eq, emb_int.eqD (by omega), decide_eq_true hr]
        have hk : r6.toNat < zs.length := by omega
        have hpop : mthM .pop (.l (zs.map dP)) [.int r6] = some (.d (dP zs[r6.toNat]), .l ((zs.eraseIdx r6.toNat).map dP)) := by
          have h1 : sm62 r6 = true := by unfold sm62; exact decide_eq_true (by omega)
          have h2 : ixN (zs.map dP).length r6 = some r6.toNat := by
            unfold ixN
            rw [if_pos r60, List.length_map, if_pos r61]
          have h3 : seqIndex? r6 (zs.map dP).length = some r6.toNat := (ixN_seq h2).1
          have h4 : (zs.map dP)[r6.toNat]? = some (dP zs[r6.toNat]) := by rw [List.getElem?_map, List.getElem?_eq_getElem hk]; rfl
          show (if sm62 r6 = true then (match seqIndex? r6 (zs.map dP).length with
            | some k => ((zs.map dP)[k]?).map fun y => (RV.d y, MO.l ((zs.map dP).eraseIdx k))
            | none => none) else none) = _
          rw [if_pos h1, h3]
          show ((zs.map dP)[r6.toNat]?).map _ = _
          rw [h4]
          have h5 : (zs.map dP).eraseIdx r6.toNat = (zs.eraseIdx r6.toNat).map dP := by
            rw [List.eraseIdx_eq_take_drop_succ, List.eraseIdx_eq_take_drop_succ, List.map_append, List.map_take, List.map_drop]
          rw [h5]
          rfl
        refine ⟨b7, zs.eraseIdx r6.toNat, List.eraseIdx_sublist .., ?_⟩
        simp only [denS_ite, den_and, den_cmp, vDen_t, den_v, den_lst, den_nil, den_cons, den_call, den_k, vDen_v, List.getElem?_cons_succ, List.getElem?_cons_zero, bind_ok', toDs_nil, toDs_cons', toD_d, List.length_nil, Nat.zero_le, if_true, view_sl, viewX_m, fz_l, view_n, obs, oms, hne, Bool.not_false, opt_some', truth_bl, view_d, hb8, List.map_cons, List.map_nil, e8, backB_ok, List.set_cons_zero, heq, toO_ok', denS_cons, denS_exp, den_mthM, den_blt, opL_v, views_cons, views_nil, blt_lenL, List.length_map, e9, hpop, List.set_cons_succ, denS_nil]
      · have heq : cmps .Eq (.int r5) (.int 0) = some false := by rw [cmps_eq, emb_int.eqD (by omega), decide_eq_false hr]
        refine ⟨b6, zs, List.Sublist.refl _, ?_⟩
        simp only [denS_ite, den_and, den_cmp, vDen_t, den_v, den_lst, den_nil, den_cons, den_call, den_k, vDen_v, List.getElem?_cons_succ, List.getElem?_cons_zero, bind_ok', toDs_nil, toDs_cons', toD_d, List.length_nil, Nat.zero_le, if_true, view_sl, viewX_m, fz_l, view_n, obs, oms, hne, Bool.not_false, opt_some', truth_bl, view_d, hb8, List.map_cons, List.map_nil, e8, backB_ok, List.set_cons_zero, heq, toO_ok', denS_nil]
  obtain ⟨b6, ws, hws, a7⟩ := a7
  have wlen : ws.length ≤ zs.length := hws.length_le
  refine ⟨b6, pl, ws, ⟨hnm, hasc, hl1, hl8, fun p hp => zmem p (hws.subset hp), zasc.sublist hws, by omega⟩, by omega, by omega, ?_⟩
  have htup : blt .tuple [.lst (ws.map dP)] = some (.d (dPs ws)) := rfl
  have eS : S203 = .cons (.asg 3 (.call 202 (.cons (.v 0) (.cons (.bin .Add (.k (.int 1)) (.call 198 (.cons (.v 0) (.cons (.v 1) .nil)))) .nil)))) (.cons (.par [4, 5] (.cons (.lst (.nil)) (.cons (.dnew) .nil))) (.cons sT1 (.cons sT2 (.cons sT3 (.cons sT4 (.cons sT5 (.cons (.ret (.tup (.cons (.v 3) (.cons (.blt .tuple (.cons (.v 10) .nil)) .nil)))) .nil))))))) := rfl
  rw [runC_s s.c203, if_pos ⟨rfl, rfl⟩, eS]
  show leave 3 (denS P (runC P cd (n + 3)) _ [some (.m false (Bw b)), some (.d (.int most)), some (.d (.int m2)), none, none, none, none, none, none, none, none]) = _
  rw [denS_cons, a1]
  dsimp only
  rw [denS_cons, a2]
  dsimp only
  rw [denS_cons, a3]
  dsimp only
  rw [denS_cons, a4]
  dsimp only
  rw [denS_cons, a5]
  dsimp only
  rw [denS_cons, a6]
  dsimp only
  rw [denS_cons, a7]
  dsimp only
  simp only [denS_cons, denS_ret, den_tup, den_cons, den_nil, den_blt, opL_v, den_v, vDen_v, List.getElem?_cons_succ, List.getElem?_cons_zero, bind_ok', views_cons, views_nil, view_sl, viewX_m, fz_l, obs, htup, opt_some', toDs_cons', toDs_nil, toD_d, List.length_cons, List.length_nil, Nat.zero_add, Nat.reduceAdd, le_SL2, if_true, toO_ok', retF_d, leave_rt, outs_s, outs_0, outS_m, outS_d]
end
end Hr
end Fl
set_option Elab.async false
set_option linter.all false
set_option maxRecDepth 100000
set_option maxHeartbeats 0
/-! Layer H, part 9: made towns, plans, closed towns, the same. -/
namespace Fl
namespace Hr
open PySem PySem.Spec PyProof.Rows L2
structure ShM (P : PI) (cd : Nat → Option Code) : Prop extends ShB P cd where
  c208 : cd 208 = some ⟨2, 0, 3, S208⟩
  c219 : cd 219 = some ⟨2, 0, 4, S219⟩
  c200 : cd 200 = some ⟨2, 0, 3, S200⟩
  nrM : ∀ f ∈ [200, 208], ∀ j, P.byRef f j = false
  b219 : P.byRef 219 0 = true
  bs219 : ∀ j, P.byRef 219 (j + 1) = false
section
variable {P : PI} {cd : Nat → Option Code}
/-! ### the same -/
mutual
/-- plain data: texts, numbers, truth values, None, tuples of these -/
def plainD : D → Bool
  | .non => true
  | .bl _ => true
  | .int _ => true
  | .str _ => true
  | .tup xs => decide (xs.length ≤ 1000) && plainDs xs
  | _ => false
def plainDs : List D → Bool
  | [] => true
  | x :: xs => plainD x && plainDs xs
end
mutual
def dpD : D → Nat
  | .tup xs => dpDs xs + 1
  | _ => 0
def dpDs : List D → Nat
  | [] => 0
  | x :: xs => max (dpD x) (dpDs xs)
end
theorem plain_mem : ∀ {xs : List D} {x : D}, plainDs xs = true → x ∈ xs → plainD x = true ∧ dpD x ≤ dpDs xs
  | y :: ys, x, h, hx => by
    have h : (plainD y && plainDs ys) = true := h
    rw [Bool.and_eq_true] at h
    show _ ∧ dpD x ≤ max (dpD y) (dpDs ys)
    rcases List.mem_cons.mp hx with rfl | hx
    · exact ⟨h.1, by omega⟩
    · have := plain_mem h.2 hx
      exact ⟨this.1, by omega⟩
theorem same_bl (c200 : cd 200 = some ⟨2, 0, 3, S200⟩) (n : Nat) (a b : Bool) : runC P cd (n + 1) 200 [] [.d (.bl a), .d (.bl b)] = .ok (.d (.bl (a == b))) [.d .non, .d .non] := by
  have e1 : eqD (.bl a) (.bl b) = some (decide (a = b)) := emb_bl.eqD (by omega) a b
  rw [runC_s c200]
  cases a <;> cases b <;> simp [S200, entry, blt, isFn, isTy, cmps, isNon, e1]
theorem same_ok (c200 : cd 200 = some ⟨2, 0, 3, S200⟩) (nr : ∀ j, P.byRef 200 j = false) : ∀ (k n : Nat) (d : D), plainD d = true → dpD d ≤ k →
    runC P cd (n + k + 1) 200 [] [.d d, .d d] = .ok (.d (.bl true)) [.d .non, .d .non] := by
  intro k
  induction k with
  | zero =>
    intro n d hp hd
    cases d with
    | non => rw [runC_s c200]; simp [S200, entry, blt, isFn, isTy, cmps, isNon]
    | bl b =>
      have := same_bl (P := P) c200 n b b
      simpa using this
    | int i =>
      have e1 : eqD (.int i) (.int i) = some true := by rw [emb_int.eqD (by omega)]; simp
      rw [runC_s c200]; simp [S200, entry, blt, isFn, isTy, cmps, isNon, e1]
    | str x =>
      have e1 : eqD (.str x) (.str x) = some true := by rw [emb_str.eqD (by omega)]; simp
      rw [runC_s c200]; simp [S200, entry, blt, isFn, isTy, cmps, isNon, e1]
    | tup xs => have : dpDs xs + 1 ≤ 0 := hd; omega
    | _ => cases hp
  | succ k ih =>
    intro n d hp hd
    cases d with
    | tup xs =>
      have hp' : (decide (xs.length ≤ 1000) && plainDs xs) = true := hp
      rw [Bool.and_eq_true, decide_eq_true_eq] at hp'
      obtain ⟨hlx, hx⟩ := hp'
      have hdx : dpDs xs ≤ k := by have : dpDs xs + 1 ≤ k + 1 := hd; omega
      have hS : (2000 : Nat) ≤ SL := by decide
      have e1 : eqD (.int xs.length) (.int xs.length) = some true := by rw [emb_int.eqD (by omega)]; simp
      have hrng : iter .range [.int xs.length] = some (rngD 0 xs.length) := by
        have : sm62 (xs.length : Int) = true := by unfold sm62; exact decide_eq_true (by omega)
        simp [iter, this]
      have hc : compG P (runC P cd (n + k + 1)) [2] [2] false .nil (.call 200 (.cons (.ix (.v 0) (.v 2)) (.cons (.ix (.v 1) (.v 2)) .nil))) (rngD 0 xs.length) [some (.d (.tup xs)), some (.d (.tup xs)), none] = .ok (.n (.l ((rngD 0 xs.length).map fun _ => .bl true))) [some (.d (.tup xs)), some (.d (.tup xs)), none] := by
        unfold compG
        rw [compF_pure (fun _ => .bl true) (fun _ => true) (by rfl) (by rw [rngD_len]; omega)]
        · rw [List.filter_eq_self.mpr (fun _ _ => rfl)]
        · intro y hy
          obtain ⟨i, hi, rfl⟩ := rngD_mem hy
          have hx1 : ixs (.tup xs) (.int (0 + i)) = some xs[i] := by
            show atI xs _ = _
            unfold atI ixN
            rw [if_pos (by omega), if_pos (by omega)]
            show xs[((0 : Int) + i).toNat]? = _
            rw [show ((0 : Int) + i).toNat = i by omega, List.getElem?_eq_getElem hi]
          obtain ⟨p1, p2⟩ := plain_mem hx (List.getElem_mem hi)
          have q := ih n xs[i] p1 (by omega)
          refine ⟨[some (.d (.tup xs)), some (.d (.tup xs)), some (.d (.int (0 + i)))], rfl, rfl, fun _ => ?_, rfl⟩
          have e2 : (den P (runC P cd (n + k + 1)) (.call 200 (.cons (.ix (.v 0) (.v 2)) (.cons (.ix (.v 1) (.v 2)) .nil)))).v [some (.d (.tup xs)), some (.d (.tup xs)), some (.d (.int (0 + i)))] = .ok (.d (.bl true)) [some (.d (.tup xs)), some (.d (.tup xs)), some (.d (.int (0 + i)))] := by
            simp only [den_call, den_cons, den_nil, den_ix, op2_v, den_v, vDen_v, List.getElem?_cons_succ, List.getElem?_cons_zero, bind_ok', view_d, obs, hx1, oms, opt_some', calling_data nr, callN_data nr, toDs_cons', toDs_nil, toD_d, List.map_cons, List.map_nil, q, callD_ok]
          rw [e2]
          rfl
      have hb : blt .all [.lst ((rngD 0 xs.length).map fun _ => .bl true)] = some (.d (.bl true)) := by
        show (blsOf _).map _ = _
        rw [blsOf_map (fun _ => true)]
        simp
      have t1 : blt (.isi .tuple) [.tup xs] = some (.d (.bl true)) := rfl
      rw [show n + (k + 1) + 1 = (n + k + 1) + 1 by omega, runC_s c200, if_pos ⟨rfl, rfl⟩]
      have eS : S200 = .cons (.ite (.blt (.isi .tuple) (.cons (.v 1) .nil)) (.cons (.ite (.or (.not (.blt (.isi .tuple) (.cons (.v 0) .nil))) (.cmp .NotEq (.blt .len (.cons (.v 0) .nil)) (.blt .len (.cons (.v 1) .nil)))) (.cons (.ret (.k (.bl false))) .nil) (.nil)) (.cons (.ret (.blt .all (.cons (.comp (.call 200 (.cons (.ix (.v 0) (.v 2)) (.cons (.ix (.v 1) (.v 2)) .nil))) [2] false .range (.cons (.blt .len (.cons (.v 1) .nil)) .nil) (.nil) [2]) .nil))) .nil)) (.nil)) (.cons (.ite (.cmp .Is (.v 1) (.k .non)) (.cons (.ret (.cmp .Is (.v 0) (.k .non))) .nil) (.nil)) (.cons (.ite (.blt (.isi .bool) (.cons (.v 1) .nil)) (.cons (.ret (.and (.blt (.isi .bool) (.cons (.v 0) .nil)) (.cmp .Eq (.v 0) (.v 1)))) .nil) (.nil)) (.cons (.ite (.blt (.isi .int) (.cons (.v 1) .nil)) (.cons (.ret (.and (.blt (.isi .int) (.cons (.v 0) .nil)) (.and (.not (.blt (.isi .bool) (.cons (.v 0) .nil))) (.cmp .Eq (.v 0) (.v 1))))) .nil) (.nil)) (.cons (.ite (.blt (.isi .str) (.cons (.v 1) .nil)) (.cons (.ret (.and (.blt (.isi .str) (.cons (.v 0) .nil)) (.cmp .Eq (.v 0) (.v 1)))) .nil) (.nil)) (.cons (.ret (.cmp .Eq (.v 0) (.v 1))) .nil))))) := rfl
      have c1 : (den P (runC P cd (n + k + 1)) (.blt (.isi .tuple) (.cons (.v 1) .nil))).t [some (.d (.tup xs)), some (.d (.tup xs)), none] = .ok true [some (.d (.tup xs)), some (.d (.tup xs)), none] := by
        simp only [den_blt, opL_t, den_cons, den_nil, den_v, vDen_v, List.getElem?_cons_succ, List.getElem?_cons_zero, bind_ok', views_cons, views_nil, view_d, obs, t1, opt_some', truth_bl]
      have c2 : (den P (runC P cd (n + k + 1)) (.or (.not (.blt (.isi .tuple) (.cons (.v 0) .nil))) (.cmp .NotEq (.blt .len (.cons (.v 0) .nil)) (.blt .len (.cons (.v 1) .nil))))).t [some (.d (.tup xs)), some (.d (.tup xs)), none] = .ok false [some (.d (.tup xs)), some (.d (.tup xs)), none] := by
        have e3 : cmps .NotEq (.int xs.length) (.int xs.length) = some false := by rw [cmps_ne, e1]; rfl
        simp only [den_or, den_not, den_cmp, vDen_t, den_blt, opL_t, opL_v, den_cons, den_nil, den_v, vDen_v, List.getElem?_cons_succ, List.getElem?_cons_zero, bind_ok', views_cons, views_nil, view_d, obs, oms, t1, opt_some', truth_bl, Bool.not_true, blt_lenT, e3]
      have c3 : denS P (runC P cd (n + k + 1)) (.ret (.blt .all (.cons (.comp (.call 200 (.cons (.ix (.v 0) (.v 2)) (.cons (.ix (.v 1) (.v 2)) .nil))) [2] false .range (.cons (.blt .len (.cons (.v 1) .nil)) .nil) (.nil) [2]) .nil))) [some (.d (.tup xs)), some (.d (.tup xs)), none] = .rt (.d (.bl true)) [some (.d (.tup xs)), some (.d (.tup xs)), none] := by
        simp only [denS_ret, den_blt, opL_v, den_cons, den_nil, den_comp, den_v, vDen_v, List.getElem?_cons_succ, List.getElem?_cons_zero, bind_ok', views_cons, views_nil, view_d, obs, blt_lenT, opt_some', toDs_cons', toDs_nil, toD_d, hrng, hc, view_n, fz_l, hb, toO_ok', retF_d]
      show leave 2 (denS P (runC P cd (n + k + 1)) S200 [some (.d (.tup xs)), some (.d (.tup xs)), none]) = _
      rw [eS, seq_rt ((ite_t c1).trans ((seq_nx (ite_f c2)).trans (seq_rt c3)))]
      rfl
    | non => rw [runC_s c200]; simp [S200, entry, blt, isFn, isTy, cmps, isNon]
    | bl b =>
      have := same_bl (P := P) c200 (n + (k + 1)) b b
      simpa using this
    | int i =>
      have e1 : eqD (.int i) (.int i) = some true := by rw [emb_int.eqD (by omega)]; simp
      rw [runC_s c200]; simp [S200, entry, blt, isFn, isTy, cmps, isNon, e1]
    | str x =>
      have e1 : eqD (.str x) (.str x) = some true := by rw [emb_str.eqD (by omega)]; simp
      rw [runC_s c200]; simp [S200, entry, blt, isFn, isTy, cmps, isNon, e1]
    | _ => cases hp
end
end Hr
end Fl
set_option Elab.async false
set_option linter.all false
set_option maxRecDepth 100000
set_option maxHeartbeats 0
/-! Layer H, part 9b: made towns, drawn plans, closed towns. -/
namespace Fl
namespace Hr
open PySem PySem.Spec PyProof.Rows L2
theorem rngD_get : ∀ (n : Nat) (lo : Int) (i : Nat), i < n → (rngD lo n)[i]? = some (.int (lo + i))
  | 0, _, _, h => by omega
  | n + 1, lo, 0, _ => by show some (D.int lo) = _; congr 2; omega
  | n + 1, lo, i + 1, h => by
    show (rngD (lo + 1) n)[i]? = _
    rw [rngD_get n (lo + 1) i (by omega)]
    congr 2
    omega
theorem two_le (a b : D) : [a, b].length ≤ SL := le_SL2
section
variable {P : PI} {cd : Nat → Option Code} (s : ShM P cd)
include s
theorem made_ok (n : Nat) {pl : List Str} {ss : List (Str × Str)} (t : TownOk pl ss) : runC P cd (n + 8) 204 [] [.d (dParts pl ss)] = .ok (.n (.i 6 [(3, dParts pl ss)])) [.d .non] := by
  have q := new_ok s.toShT n t [some (.d (dParts pl ss))]
  refine (run_rt s.c204 ⟨rfl, rfl⟩ (seq_rt (ret_n (o := .i 6 [(3, dParts pl ss)]) (ρ1 := [some (.d (dParts pl ss))]) ?_))).trans rfl
  show (den P (runC P cd (n + 7)) (.new 6 29 (.cons (.ix (.v 0) (.k (.int 0))) (.cons (.ix (.v 0) (.k (.int 1))) .nil)))).v [some (.d (dParts pl ss))] = _
  simp only [den_new, den_cons, den_nil, den_ix, op2_v, den_v, den_k, vDen_v, List.getElem?_cons_zero, bind_ok', view_d, obs, ixs_t0, ixs_t1, oms, opt_some', q]
theorem plan_ok (n : Nat) (b : Bowl) (pl : List Str) (ss : List (Str × Str)) (hl : ss.length ≤ 1000) : ∃ (b' : Bowl) (plan : List Int), PlanOk ss.length plan ∧ runC P cd (n + 3) 219 [] [.m false (Bw b), .d (dParts pl ss)] = .ok (.d (dIs plan)) [.m false (Bw b'), .d .non] := by
  have hb := callN_ref (P := P) (call := runC P cd (n + 2)) (caps := []) rfl (s.b0 199 (by simp)) (s.bs 199 (by simp))
  have hS : (2000 : Nat) ≤ SL := by decide
  -- the kinds
  obtain ⟨kd, b1, hk, e1⟩ := of_ok s.toShB n b dIs (v := .tup [.tup [.int 1, .int (-1)], .tup [.int 1, .int (-1), .int 0], .tup [.int 0, .int 0, .int 1]]) (xs := [[1, -1], [1, -1, 0], [0, 0, 1]]) (.inl rfl) (by simp) (by decide)
  have hkn : kd ≠ [] ∧ kd.length ≤ 3 ∧ ∀ i ∈ kd, isW i := by
    simp at hk
    rcases hk with rfl | rfl | rfl <;> refine ⟨by simp, by simp, ?_⟩ <;> intro i hi <;> simp at hi <;> unfold isW <;> omega
  have a1 : denS P (runC P cd (n + 2)) (.asg 2 (.call 199 (.cons (.v 0) (.cons (.tup (.cons (.tup (.cons (.k (.int 1)) (.cons (.bin .Sub (.k (.int 0)) (.k (.int 1))) .nil))) (.cons (.tup (.cons (.k (.int 1)) (.cons (.bin .Sub (.k (.int 0)) (.k (.int 1))) (.cons (.k (.int 0)) .nil)))) (.cons (.tup (.cons (.k (.int 0)) (.cons (.k (.int 0)) (.cons (.k (.int 1)) .nil)))) .nil)))) .nil)))) [some (.m false (Bw b)), some (.d (dParts pl ss)), none, none] = .nx [some (.m false (Bw b1)), some (.d (dParts pl ss)), some (.d (dIs kd)), none] := by
    refine asg_ok (r := .d (dIs kd)) (v := .d (dIs kd)) (ρ1 := [some (.m false (Bw b1)), some (.d (dParts pl ss)), none, none]) ?_ rfl rfl
    have m1 : (0 : Int) - 1 = -1 := by decide
    simp only [den_call, den_cons, den_nil, den_tup, den_bin, op2_v, den_v, den_k, vDen_v, List.getElem?_cons_zero, bind_ok', view_d, obs, bins_sub, m1, opt_some', toDs_cons', toDs_nil, toD_d, List.length_cons, List.length_nil, Nat.zero_add, Nat.reduceAdd, le_SL2, le_SL3, if_true, hb, List.map_cons, List.map_nil, e1, backB_ok, List.set_cons_zero]
  obtain ⟨ys, ρ', e2, b2, plan, ⟨hw, hlen⟩, rfl, hρ⟩ : ∃ ys ρ', compG P (runC P cd (n + 2)) [3] [3] false .nil (.call 199 (.cons (.v 0) (.cons (.v 2) .nil))) (ss.map dP) [some (.m false (Bw b1)), some (.d (dParts pl ss)), some (.d (dIs kd)), none] = .ok (.n (.l ys)) (backE [some (.m false (Bw b1)), some (.d (dParts pl ss)), some (.d (dIs kd)), none] [3] ρ') ∧
      ∃ (b2 : Bowl) (plan : List Int), ((∀ i ∈ plan, isW i) ∧ plan.length + 0 = ss.length) ∧ ys = plan.map .int ∧ wipeE ρ' [3] = [some (.m false (Bw b2)), some (.d (dParts pl ss)), some (.d (dIs kd)), none] := by
    obtain ⟨ys, ρ', e, h⟩ := compF_inv (own := [3]) (tg := [3]) (many := false) (c := den P (runC P cd (n + 2)) .nil) (e := den P (runC P cd (n + 2)) (.call 199 (.cons (.v 0) (.cons (.v 2) .nil)))) (fun l acc ρ => ∃ (b2 : Bowl) (plan : List Int), ((∀ i ∈ plan, isW i) ∧ plan.length + l.length = ss.length) ∧ acc = plan.map .int ∧ wipeE ρ [3] = [some (.m false (Bw b2)), some (.d (dParts pl ss)), some (.d (dIs kd)), none]) (xs := ss.map dP) (ρ := [some (.m false (Bw b1)), some (.d (dParts pl ss)), some (.d (dIs kd)), none]) rfl ⟨b1, [], ⟨(fun _ h => nomatch h), by simp⟩, rfl, rfl⟩ (by rw [List.length_map]; omega) (by
      rintro x xs acc ρ ⟨b2, plan, ⟨hw, hpl⟩, rfl, hρ⟩
      obtain ⟨i, b3, hi, e3⟩ := of_ok s.toShB n b2 D.int (v := dIs kd) (xs := kd) (.inl rfl) hkn.1 (by omega)
      refine ⟨[some (.m false (Bw b2)), some (.d (dParts pl ss)), some (.d (dIs kd)), some (.d x)], true, _, by rw [hρ]; rfl, rfl, fun _ => ⟨.int i, [some (.m false (Bw b3)), some (.d (dParts pl ss)), some (.d (dIs kd)), some (.d x)], ?_, b3, plan ++ [i], ⟨fun j hj => ?_, ?_⟩, ?_, rfl⟩, fun h => by cases h⟩
      · simp only [den_call, den_cons, den_nil, den_v, vDen_v, List.getElem?_cons_succ, List.getElem?_cons_zero, bind_ok', hb, toDs_cons', toDs_nil, toD_d, List.map_cons, List.map_nil, e3, backB_ok, List.set_cons_zero]
      · rcases List.mem_append.mp hj with hj | hj
        · exact hw j hj
        · rw [List.mem_singleton.mp hj]; exact hkn.2.2 i hi
      · rw [List.length_append, List.length_singleton]
        rw [List.length_cons] at hpl
        omega
      · rw [List.map_append]; rfl)
    exact ⟨ys, ρ', e, h⟩
  have hback : backE [some (.m false (Bw b1)), some (.d (dParts pl ss)), some (.d (dIs kd)), none] [3] ρ' = [some (.m false (Bw b2)), some (.d (dParts pl ss)), some (.d (dIs kd)), none] := hρ
  rw [hback] at e2
  refine ⟨b2, plan, ⟨by omega, hw⟩, ?_⟩
  have htup : blt .tuple [.lst (plan.map D.int)] = some (.d (dIs plan)) := rfl
  have hseq : iter .seq [dPs ss] = some (ss.map dP) := rfl
  have a2 : denS P (runC P cd (n + 2)) (.ret (.blt .tuple (.cons (.comp (.call 199 (.cons (.v 0) (.cons (.v 2) .nil))) [3] false .seq (.cons (.ix (.v 1) (.k (.int 1))) .nil) (.nil) [3]) .nil))) [some (.m false (Bw b1)), some (.d (dParts pl ss)), some (.d (dIs kd)), none] = .rt (.d (dIs plan)) [some (.m false (Bw b2)), some (.d (dParts pl ss)), some (.d (dIs kd)), none] := by
    refine ret_d ?_
    simp only [den_blt, opL_v, den_cons, den_nil, den_comp, den_ix, op2_v, den_v, den_k, vDen_v, List.getElem?_cons_succ, List.getElem?_cons_zero, bind_ok', view_d, obs, ixs_t1, oms, opt_some', toDs_cons', toDs_nil, toD_d, hseq, e2, views_cons, views_nil, view_n, fz_l, htup]
  exact (run_rt s.c219 ⟨rfl, rfl⟩ ((seq_nx a1).trans (seq_rt a2))).trans rfl
theorem closed_ok (n : Nat) (pl : List Str) (p : Str × Str) (ss : List (Str × Str)) (hl : ss.length ≤ 999) : runC P cd (n + 1) 208 [] [.d (dParts pl (p :: ss)), .d (.tup [.int 0])] = .ok (.d (dParts pl ss)) [.d .non, .d .non] := by
  have hS : (2000 : Nat) ≤ SL := by decide
  have hrng : iter .range [.int (p :: ss).length] = some (rngD 0 (p :: ss).length) := range_len s.toShB (p :: ss).length (by rw [List.length_cons]; omega)
  have hc : compG P (runC P cd n) [2] [2] false (.cmp .NotIn (.v 2) (.v 1)) (.ix (.ix (.v 0) (.k (.int 1))) (.v 2)) (rngD 0 (p :: ss).length) [some (.d (dParts pl (p :: ss))), some (.d (.tup [.int 0])), none] = .ok (.n (.l (ss.map dP))) [some (.d (dParts pl (p :: ss))), some (.d (.tup [.int 0])), none] := by
    unfold compG
    rw [compF_pure (fun d => match d with | .int i => (((p :: ss).map dP)[i.toNat]?).getD .non | d => d) (fun d => match d with | .int i => !decide (i = 0) | _ => true) (by rfl) (by rw [rngD_len, List.length_cons]; omega)]
    · have e1 : (rngD 0 (p :: ss).length).filter (fun d => match d with | .int i => !decide (i = 0) | _ => true) = rngD 1 ss.length := by
        show List.filter _ (.int 0 :: rngD 1 ss.length) = _
        rw [List.filter_cons, if_neg (by simp), List.filter_eq_self]
        intro d hd
        obtain ⟨i, hi, rfl⟩ := rngD_mem hd
        have : ¬ ((1 : Int) + i = 0) := by omega
        simp [this]
      have e2 : (rngD 1 ss.length).map (fun d => match d with | .int i => (((p :: ss).map dP)[i.toNat]?).getD .non | d => d) = ss.map dP := by
        apply List.ext_getElem?
        intro i
        rw [List.getElem?_map, List.getElem?_map]
        by_cases hi : i < ss.length
        · rw [rngD_get _ _ _ hi, List.getElem?_eq_getElem hi]
          show some ((((p :: ss).map dP)[((1 : Int) + i).toNat]?).getD .non) = some (dP ss[i])
          rw [show ((1 : Int) + i).toNat = i + 1 by omega, List.map_cons, List.getElem?_cons_succ, List.getElem?_map, List.getElem?_eq_getElem hi]
          rfl
        · rw [List.getElem?_eq_none (by rw [rngD_len]; omega), List.getElem?_eq_none (by omega)]
          rfl
      rw [e1, e2]
    · intro y hy
      obtain ⟨i, hi, rfl⟩ := rngD_mem hy
      have hm : cmps .NotIn (.int (0 + i)) (.tup [.int 0]) = some (!decide ((0 : Int) + i = 0)) := by
        show (memL (.int (0 + i)) ([(0 : Int)].map D.int)).map _ = _
        rw [emb_int.memL (by omega)]
        simp
      have hx : ixs (dPs (p :: ss)) (.int (0 + i)) = some ((((p :: ss).map dP)[((0 : Int) + i).toNat]?).getD .non) := by
        show atI ((p :: ss).map dP) _ = _
        unfold atI ixN
        rw [if_pos (by omega), if_pos (by rw [List.length_map]; omega)]
        show ((p :: ss).map dP)[((0 : Int) + i).toNat]? = _
        rw [show ((0 : Int) + i).toNat = i by omega, List.getElem?_map, List.getElem?_eq_getElem hi]
        rfl
      refine ⟨[some (.d (dParts pl (p :: ss))), some (.d (.tup [.int 0])), some (.d (.int (0 + i)))], rfl, ?_, fun _ => ?_, rfl⟩
      · simp only [den_cmp, vDen_t, den_v, vDen_v, List.getElem?_cons_succ, List.getElem?_cons_zero, bind_ok', view_d, obs, hm, oms, opt_some', truth_bl]
      · simp only [den_ix, op2_v, den_v, den_k, vDen_v, List.getElem?_cons_succ, List.getElem?_cons_zero, bind_ok', view_d, obs, ixs_t1, oms, opt_some', hx, toD_d]
  have htup : blt .tuple [.lst (ss.map dP)] = some (.d (dPs ss)) := rfl
  refine (run_rt s.c208 ⟨rfl, rfl⟩ (seq_rt (ret_d (v := dParts pl ss) (ρ1 := [some (.d (dParts pl (p :: ss))), some (.d (.tup [.int 0])), none]) ?_))).trans rfl
  show (den P (runC P cd n) _).v [some (.d (dParts pl (p :: ss))), some (.d (.tup [.int 0])), none] = _
  simp only [den_tup, den_cons, den_nil, den_ix, op2_v, den_v, den_k, vDen_v, List.getElem?_cons_succ, List.getElem?_cons_zero, bind_ok', view_d, obs, ixs_t0, ixs_t1, oms, opt_some', den_blt, opL_v, den_comp, views_cons, views_nil, blt_lenT, List.length_map, toDs_cons', toDs_nil, toD_d, hrng, hc, view_n, fz_l, htup, two_le, if_true]
end
end Hr
end Fl
set_option Elab.async false
set_option linter.all false
set_option maxRecDepth 100000
set_option maxHeartbeats 0
/-! k83, part a: texts split. -/
namespace Fl
namespace Hr
open PySem PySem.Spec PyProof.Rows L2
/-- the codes of words with a sign between -/
def glueL (c : Nat) : List (List Nat) → List Nat
  | [] => []
  | [x] => x
  | x :: r => x ++ c :: glueL c r
theorem join_cps (c : Nat) : ∀ ws : List Str, (Str.join (sgn c) ws).cps.toList = glueL c (ws.map fun w => w.cps.toList)
  | [] => rfl
  | [x] => rfl
  | x :: y :: r => by
    show ((x ++ sgn c) ++ Str.join (sgn c) (y :: r)).cps.toList = x.cps.toList ++ c :: glueL c ((y :: r).map fun w => w.cps.toList)
    rw [cps_app, cps_app, join_cps c (y :: r), List.append_assoc]
    rfl
theorem first_eq {c : Nat} : ∀ {u w A B : List Nat}, c ∉ u → c ∉ w → u ++ c :: A = w ++ c :: B → u = w ∧ A = B
  | [], [], A, B, _, _, h => ⟨rfl, by simpa using h⟩
  | [], y :: w, A, B, _, hw, h => by
    injection h with h1 h2
    exact absurd (by rw [h1]; exact List.mem_cons_self ..) hw
  | x :: u, [], A, B, hu, _, h => by
    injection h with h1 h2
    exact absurd (by rw [h1]; exact List.mem_cons_self ..) hu
  | x :: u, y :: w, A, B, hu, hw, h => by
    injection h with h1 h2
    rw [List.mem_cons, not_or] at hu hw
    obtain ⟨e1, e2⟩ := first_eq hu.2 hw.2 h2
    exact ⟨by rw [h1, e1], e2⟩
theorem glue_inj {c : Nat} : ∀ {us ws : List (List Nat)}, us ≠ [] → ws ≠ [] → (∀ u ∈ us, c ∉ u) → (∀ w ∈ ws, c ∉ w) → glueL c us = glueL c ws → us = ws
  | [], _, h, _, _, _, _ => absurd rfl h
  | _ :: _, [], _, h, _, _, _ => absurd rfl h
  | [u], [w], _, _, _, _, h => by have h : u = w := h; rw [h]
  | [u], w :: w2 :: ws, _, _, hu, _, h => by
    have h : u = w ++ c :: glueL c (w2 :: ws) := h
    exact absurd (by rw [h]; simp) (hu u (List.mem_cons_self ..))
  | u :: u2 :: us, [w], _, _, _, hw, h => by
    have h : u ++ c :: glueL c (u2 :: us) = w := h
    exact absurd (by rw [← h]; simp) (hw w (List.mem_cons_self ..))
  | u :: u2 :: us, w :: w2 :: ws, _, _, hu, hw, h => by
    have h : u ++ c :: glueL c (u2 :: us) = w ++ c :: glueL c (w2 :: ws) := h
    obtain ⟨e1, e2⟩ := first_eq (hu u (List.mem_cons_self ..)) (hw w (List.mem_cons_self ..)) h
    have ih := glue_inj (us := u2 :: us) (ws := w2 :: ws) (by simp) (by simp) (fun z hz => hu z (List.mem_cons_of_mem _ hz)) (fun z hz => hw z (List.mem_cons_of_mem _ hz)) e2
    rw [e1, ih]
theorem map_inj' {α β : Type} {f : α → β} (hf : ∀ a b, f a = f b → a = b) : ∀ {us ws : List α}, us.map f = ws.map f → us = ws
  | [], [], _ => rfl
  | [], _ :: _, h => by cases h
  | _ :: _, [], h => by cases h
  | u :: us, w :: ws, h => by
    rw [List.map_cons, List.map_cons] at h
    injection h with h1 h2
    rw [hf u w h1, map_inj' hf h2]
/-- a text of words is split into them -/
theorem split_words (ws : List Str) (hne : ws ≠ []) (hf : ∀ w ∈ ws, 32 ∉ w.cps.toList) {x : Str} (hx : x.cps.toList = glueL 32 (ws.map fun w => w.cps.toList)) : Txt.split x " " = ws := by
  have esp : (" " : Str) = sgn 32 := by decide +kernel
  have hj := StrLaws.join_split x (sgn 32)
  have hfree := StrLaws.split_free x 32
  have hpos := split_pos x (sgn 32)
  rw [esp]
  generalize Txt.split x (sgn 32) = us at hj hfree hpos
  have e := join_cps 32 us
  rw [hj, hx] at e
  have hu : us ≠ [] := fun z => by rw [z] at hpos; simp at hpos
  have := glue_inj (c := 32) (us := us.map fun w => w.cps.toList) (ws := ws.map fun w => w.cps.toList) (by simpa using hu) (by simpa using hne) (fun z hz => by
    obtain ⟨w, hw, rfl⟩ := List.mem_map.mp hz
    exact hfree w hw) (fun z hz => by
    obtain ⟨w, hw, rfl⟩ := List.mem_map.mp hz
    exact hf w hw) e.symm
  exact map_inj' (fun a b h => str_eq h) this
end Hr
end Fl
set_option Elab.async false
set_option linter.all false
set_option maxRecDepth 100000
set_option maxHeartbeats 0
/-! k83, part b: lines. -/
namespace Fl
namespace Hr
open PySem PySem.Spec PyProof.Rows L2
abbrev sPlace : Str := "place"
abbrev sStreet : Str := "street"
abbrev sWay : Str := "way"
def rowP (x : Str) : Str := "place " ++ x
def rowS (p : Str × Str) (i : Int) : Str := if i = 0 then (("street " ++ p.1) ++ " ") ++ p.2 else if i = 1 then (("way " ++ p.1) ++ " ") ++ p.2 else (("way " ++ p.2) ++ " ") ++ p.1
def wP (x : Str) : List Str := [sPlace, x]
def wS (p : Str × Str) (i : Int) : List Str := if i = 0 then [sStreet, p.1, p.2] else if i = 1 then [sWay, p.1, p.2] else [sWay, p.2, p.1]
def rowsOf (pl : List Str) (ss : List (Str × Str)) (plan : List Int) : List Str := pl.map rowP ++ (ss.zip plan).map fun q => rowS q.1 q.2
def wsOf (pl : List Str) (ss : List (Str × Str)) (plan : List Int) : List (List Str) := pl.map wP ++ (ss.zip plan).map fun q => wS q.1 q.2
/-- a line and its words -/
structure Told (r : Str) (w : List Str) : Prop where
  cps : r.cps.toList = glueL 32 (w.map fun x => x.cps.toList)
  wd : ∀ x ∈ w, isWd x
  form : (∃ x, w = [sPlace, x]) ∨ (∃ x y, w = [sStreet, x, y]) ∨ ∃ x y, w = [sWay, x, y]
  len : r.length + 2 ≤ SL
  lx : ∀ x ∈ w, x.length ≤ SL
theorem wd_free {x : Str} (h : isWd x) : 32 ∉ x.cps.toList := fun z => by
  have := h.2 32 z
  simp [lowC] at this
theorem wd_place : isWd sPlace := ⟨by decide +kernel, by decide +kernel⟩
theorem wd_street : isWd sStreet := ⟨by decide +kernel, by decide +kernel⟩
theorem wd_way : isWd sWay := ⟨by decide +kernel, by decide +kernel⟩
theorem c_place : ("place " : Str).cps.toList = sPlace.cps.toList ++ [32] := by decide +kernel
theorem c_street : ("street " : Str).cps.toList = sStreet.cps.toList ++ [32] := by decide +kernel
theorem c_way : ("way " : Str).cps.toList = sWay.cps.toList ++ [32] := by decide +kernel
theorem c_sp : (" " : Str).cps.toList = [32] := by decide +kernel
theorem l_place : ("place " : Str).length = 6 := by decide +kernel
theorem l_street : ("street " : Str).length = 7 := by decide +kernel
theorem l_way : ("way " : Str).length = 4 := by decide +kernel
theorem l_sp : (" " : Str).length = 1 := by decide +kernel
theorem l_word {x : Str} (h : x = sPlace ∨ x = sStreet ∨ x = sWay) : x.length ≤ 6 := by rcases h with rfl | rfl | rfl <;> decide +kernel
theorem told_P {x : Str} (h : isNm x) : Told (rowP x) (wP x) := by
  have hS : (100 : Nat) ≤ SL := by decide
  have := h.len
  refine ⟨?_, ?_, .inl ⟨x, rfl⟩, ?_, ?_⟩
  · unfold rowP wP
    rw [cps_app, c_place, List.append_assoc]
    rfl
  · intro y hy
    rcases List.mem_cons.mp hy with rfl | hy
    · exact wd_place
    · rw [List.mem_singleton.mp hy]; exact h.wd
  · unfold rowP
    rw [len_app, l_place]
    omega
  · intro y hy
    rcases List.mem_cons.mp hy with rfl | hy
    · have := l_word (x := sPlace) (.inl rfl); omega
    · rw [List.mem_singleton.mp hy]; omega
theorem told_3 {k x y : Str} {pre : Str} (hk : isWd k) (hk6 : k.length ≤ 6) (hf : k = sStreet ∨ k = sWay) (hp : pre.cps.toList = k.cps.toList ++ [32]) (hp7 : pre.length ≤ 7) (hx : isNm x) (hy : isNm y) : Told (((pre ++ x) ++ " ") ++ y) [k, x, y] := by
  have hS : (100 : Nat) ≤ SL := by decide
  have := hx.len
  have := hy.len
  refine ⟨?_, ?_, ?_, ?_, ?_⟩
  · rw [cps_app, cps_app, cps_app, hp, c_sp]
    simp [glueL]
  · intro z hz
    rcases List.mem_cons.mp hz with rfl | hz
    · exact hk
    · rcases List.mem_cons.mp hz with rfl | hz
      · exact hx.wd
      · rw [List.mem_singleton.mp hz]; exact hy.wd
  · rcases hf with rfl | rfl
    · exact .inr (.inl ⟨x, y, rfl⟩)
    · exact .inr (.inr ⟨x, y, rfl⟩)
  · rw [len_app, len_app, len_app, l_sp]
    omega
  · intro z hz
    rcases List.mem_cons.mp hz with rfl | hz
    · omega
    · rcases List.mem_cons.mp hz with rfl | hz
      · omega
      · rw [List.mem_singleton.mp hz]; omega
theorem told_S {p : Str × Str} (h1 : isNm p.1) (h2 : isNm p.2) (i : Int) : Told (rowS p i) (wS p i) := by
  unfold rowS wS
  split
  · exact told_3 wd_street (l_word (.inr (.inl rfl))) (.inl rfl) c_street (by rw [l_street]; exact Nat.le_refl _) h1 h2
  · split
    · exact told_3 wd_way (l_word (.inr (.inr rfl))) (.inr rfl) c_way (by rw [l_way]; omega) h1 h2
    · exact told_3 wd_way (l_word (.inr (.inr rfl))) (.inr rfl) c_way (by rw [l_way]; omega) h2 h1
structure ShK (P : PI) (cd : Nat → Option Code) : Prop extends ShM P cd where
  pl : ShPl P cd
  c660 : cd 660 = some ⟨1, 0, 3, k83.S660⟩
  c661 : cd 661 = some ⟨1, 0, 3, k83.S661⟩
  c662 : cd 662 = some ⟨2, 0, 3, k83.S662⟩
  c663 : cd 663 = some ⟨1, 0, 5, k83.S663⟩
  c664 : cd 664 = some ⟨1, 0, 1, k83.S664⟩
  c665 : cd 665 = some ⟨1, 0, 1, k83.S665⟩
  c666 : cd 666 = some ⟨1, 0, 6, k83.S666⟩
  c667 : cd 667 = some ⟨2, 0, 2, k83.S667⟩
  c668 : cd 668 = some ⟨2, 0, 6, k83.S668⟩
  c669 : cd 669 = some ⟨2, 0, 2, k83.S669⟩
  c670 : cd 670 = some ⟨1, 0, 4, k83.S670⟩
  c671 : cd 671 = some ⟨2, 0, 7, k83.S671⟩
  c672 : cd 672 = some ⟨1, 0, 10, k83.S672⟩
  c673 : cd 673 = some ⟨1, 0, 2, k83.S673⟩
  nrK : ∀ f ∈ [660, 661, 662, 663, 664, 665, 666, 667, 668, 669, 670, 671, 673], ∀ j, P.byRef f j = false
  b672 : P.byRef 672 0 = true
  bs672 : ∀ j, P.byRef 672 (j + 1) = false
section
variable {P : PI} {cd : Nat → Option Code} (s : ShK P cd)
include s
theorem sizes_in {k : Str} (h : k = sPlace ∨ k = sStreet ∨ k = sWay) : cmps .NotIn (.str k) k83.K_SIZES = some false := by
  rcases h with rfl | rfl | rfl <;> rfl
theorem told_ok (n : Nat) {r : Str} {w : List Str} (h : Told r w) : runC P cd (n + 2) 661 [] [.d (.str r)] = .ok (.d (dSs w)) [.d .non] := by
  have hsp : Txt.split r " " = w := split_words w (by rcases h.form with ⟨x, rfl⟩ | ⟨x, y, rfl⟩ | ⟨x, y, rfl⟩ <;> simp) (fun x hx => wd_free (h.wd x hx)) h.cps
  obtain ⟨k, w', rfl, hk, hsz⟩ : ∃ k w', w = k :: w' ∧ (k = sPlace ∨ k = sStreet ∨ k = sWay) ∧ ixs k83.K_SIZES (.str k) = some (.int (k :: w').length) := by
    rcases h.form with ⟨x, rfl⟩ | ⟨x, y, rfl⟩ | ⟨x, y, rfl⟩
    · exact ⟨_, _, rfl, .inl rfl, rfl⟩
    · exact ⟨_, _, rfl, .inr (.inl rfl), rfl⟩
    · exact ⟨_, _, rfl, .inr (.inr rfl), rfl⟩
  have hlen : (k :: w').length ≤ 3 := by
    rcases h.form with ⟨x, e⟩ | ⟨x, y, e⟩ | ⟨x, y, e⟩ <;> (rw [e]; simp)
  have hS : (100 : Nat) ≤ SL := by decide
  have hm : mth .split (.str r) [.str " "] = some (.n (.l ((k :: w').map .str))) := by
    have hc : ((" " : Str).length == 0) = false ∧ r.length + 2 ≤ SL := ⟨by decide +kernel, h.len⟩
    rw [← hsp]
    exact if_pos (e := none) hc
  have t1 : blt (.isi .str) [.str r] = some (.d (.bl true)) := rfl
  have a1 : denS P (runC P cd (n + 1)) (.asg 1 (.ite (.blt (.isi .str) (.cons (.v 0) .nil)) (.mth .split (.v 0) (.cons (.k (.str " ")) .nil)) (.lst (.cons (.k (.str "")) .nil)))) [some (.d (.str r)), none, none] = .nx [some (.d (.str r)), some (.m true (.l ((k :: w').map .str))), none] := by
    refine asg_ok (r := .n (.l ((k :: w').map .str))) (v := .m true (.l ((k :: w').map .str))) (ρ1 := [some (.d (.str r)), none, none]) ?_ rfl rfl
    simp only [den_ite, vDen_v, den_blt, opL_t, den_cons, den_nil, den_v, List.getElem?_cons_zero, bind_ok', views_cons, views_nil, view_d, obs, t1, opt_some', truth_bl, den_mth, den_k, hm]
  have e1 : cmps .NotIn (.str k) k83.K_SIZES = some false := sizes_in s hk
  have e2 : cmps .NotEq (.int (k :: w').length) (.int (k :: w').length) = some false := by rw [cmps_ne, emb_int.eqD (by omega)]; simp
  have hc : compG P (runC P cd (n + 1)) [2] [2] false .nil (.call 9 (.cons (.v 2) .nil)) ((k :: w').map .str) [some (.d (.str r)), some (.d (.lst ((k :: w').map .str))), none] = .ok (.n (.l ((k :: w').map fun _ => .bl true))) [some (.d (.str r)), some (.d (.lst ((k :: w').map .str))), none] := by
    unfold compG
    rw [compF_pure (fun _ => .bl true) (fun _ => true) (by rfl) (by rw [List.length_map]; omega)]
    · rw [List.filter_eq_self.mpr (fun _ _ => rfl), List.map_map]
      rfl
    · intro y hy
      obtain ⟨x, hx, rfl⟩ := List.mem_map.mp hy
      have q := word_ok s.toShN n (h.wd x hx) (h.lx x hx)
      refine ⟨[some (.d (.str r)), some (.d (.lst ((k :: w').map .str))), some (.d (.str x))], rfl, rfl, fun _ => ?_, rfl⟩
      simp only [den_call, den_cons, den_nil, den_v, vDen_v, List.getElem?_cons_succ, List.getElem?_cons_zero, bind_ok', calling_data (s.nr 9 (by simp)), callN_data (s.nr 9 (by simp)), toDs_cons', toDs_nil, toD_d, List.map_cons, List.map_nil, q, callD_ok]
  have hb : blt .all [.lst ((k :: w').map fun _ => .bl true)] = some (.d (.bl true)) := by
    show (blsOf _).map _ = _
    rw [blsOf_map (fun _ => true)]
    simp
  have hix : ixs (.lst ((k :: w').map .str)) (.int 0) = some (.str k) := ixs_l0 _ _
  have hlen2 : blt .len [.lst ((k :: w').map D.str)] = some (.d (.int (k :: w').length)) := by
    rw [blt_lenL, List.length_map]
  have c2 : (den P (runC P cd (n + 1)) (.or (.cmp .NotIn (.ix (.v 1) (.k (.int 0))) (.k k83.K_SIZES)) (.or (.cmp .NotEq (.blt .len (.cons (.v 1) .nil)) (.ix (.k k83.K_SIZES) (.ix (.v 1) (.k (.int 0))))) (.not (.blt .all (.cons (.comp (.call 9 (.cons (.v 2) .nil)) [2] false .seq (.cons (.v 1) .nil) (.nil) [2]) .nil)))))).t [some (.d (.str r)), some (.m true (.l ((k :: w').map .str))), none] = .ok false [some (.d (.str r)), some (.d (.lst ((k :: w').map .str))), none] := by
    have s1 : (den P (runC P cd (n + 1)) (.cmp .NotIn (.ix (.v 1) (.k (.int 0))) (.k k83.K_SIZES))).t [some (.d (.str r)), some (.m true (.l ((k :: w').map .str))), none] = .ok false [some (.d (.str r)), some (.m true (.l ((k :: w').map .str))), none] := by
      simp only [den_cmp, vDen_t, den_ix, op2_v, den_v, den_k, vDen_v, List.getElem?_cons_succ, List.getElem?_cons_zero, bind_ok', view_sl, viewX_m, fz_l, view_d, obs, hix, oms, opt_some', e1, truth_bl]
    have s2 : (den P (runC P cd (n + 1)) (.cmp .NotEq (.blt .len (.cons (.v 1) .nil)) (.ix (.k k83.K_SIZES) (.ix (.v 1) (.k (.int 0)))))).t [some (.d (.str r)), some (.m true (.l ((k :: w').map .str))), none] = .ok false [some (.d (.str r)), some (.m true (.l ((k :: w').map .str))), none] := by
      simp only [den_cmp, vDen_t, den_ix, den_blt, opL_v, den_cons, den_nil, op2_v, den_v, den_k, vDen_v, List.getElem?_cons_succ, List.getElem?_cons_zero, bind_ok', views_cons, views_nil, view_sl, viewX_m, fz_l, view_d, obs, hlen2, hix, hsz, oms, opt_some', e2, truth_bl]
    have s3 : (den P (runC P cd (n + 1)) (.not (.blt .all (.cons (.comp (.call 9 (.cons (.v 2) .nil)) [2] false .seq (.cons (.v 1) .nil) (.nil) [2]) .nil)))).t [some (.d (.str r)), some (.m true (.l ((k :: w').map .str))), none] = .ok false [some (.d (.str r)), some (.d (.lst ((k :: w').map .str))), none] := by
      have hseq : iter .seq [.lst ((k :: w').map D.str)] = some ((k :: w').map D.str) := rfl
      simp only [den_not, den_blt, opL_t, den_cons, den_nil, den_comp, vDen_v, den_v, List.getElem?_cons_succ, List.getElem?_cons_zero, bind_ok', toDs_cons', toDs_nil, toD_sl, toX_m, fz_l, List.set_cons_succ, List.set_cons_zero, hseq, opt_some', hc, views_cons, views_nil, view_n, obs, hb, view_d, truth_bl, Bool.not_true]
    rw [den_or]
    show ((den P _ _).t _).bind _ = _
    rw [s1]
    show (den P _ (.or _ _)).t _ = _
    rw [den_or]
    show ((den P _ _).t _).bind _ = _
    rw [s2]
    exact s3
  have c3 : denS P (runC P cd (n + 1)) (.ret (.blt .tuple (.cons (.v 1) .nil))) [some (.d (.str r)), some (.d (.lst ((k :: w').map .str))), none] = .rt (.d (dSs (k :: w'))) [some (.d (.str r)), some (.d (.lst ((k :: w').map .str))), none] := by
    refine ret_d ?_
    have htup : blt .tuple [.lst ((k :: w').map D.str)] = some (.d (dSs (k :: w'))) := rfl
    simp only [den_blt, opL_v, den_cons, den_nil, den_v, vDen_v, List.getElem?_cons_succ, List.getElem?_cons_zero, bind_ok', views_cons, views_nil, view_d, obs, htup, opt_some']
  exact (run_rt s.c661 ⟨rfl, rfl⟩ ((seq_nx a1).trans ((seq_nx (ite_f c2)).trans (seq_rt c3)))).trans rfl
/-- places ahead of all others -/
theorem may_ok (n : Nat) (ahead : List (List Str)) (w : List Str) (hl : ahead.length ≤ 1000) (hw : (∃ x, w = [sPlace, x]) ∨ (∃ x y, w = [sStreet, x, y]) ∨ ∃ x y, w = [sWay, x, y]) (ha : w.head? = some sPlace → ∀ a ∈ ahead, ∃ x, a = [sPlace, x]) (hall : ∀ a ∈ ahead, ∃ k r, a = k :: r) :
    runC P cd (n + 1) 662 [] [.d (.lst (ahead.map dSs)), .d (dSs w)] = .ok (.d (.bl true)) [.d .non, .d .non] := by
  have hS : (2000 : Nat) ≤ SL := by decide
  obtain ⟨k, w', rfl⟩ : ∃ k w', w = k :: w' := by rcases hw with ⟨x, rfl⟩ | ⟨x, y, rfl⟩ | ⟨x, y, rfl⟩ <;> exact ⟨_, _, rfl⟩
  have e1 : cmps .NotEq (dSs (k :: w')) (.tup []) = some true := by
    have : eqD (dSs (k :: w')) (.tup []) = some (decide (k :: w' = [])) := emb_Ss.eqD (by omega) (k :: w') []
    rw [cmps_ne, this]
    rfl
  have hix : ixs (dSs (k :: w')) (.int 0) = some (.str k) := ixs_t0 _ _
  have e2 : cmps .NotEq (.str k) k83.K_PLACE = some (!decide (k = sPlace)) := by
    have : eqD (.str k) k83.K_PLACE = some (decide (k = sPlace)) := emb_str.eqD (by omega) k sPlace
    rw [cmps_ne, this]
    rfl
  refine (run_rt s.c662 ⟨rfl, rfl⟩ (seq_rt (ret_d (v := .bl true) (ρ1 := [some (.d (.lst (ahead.map dSs))), some (.d (dSs (k :: w'))), none]) ?_))).trans rfl
  show (den P (runC P cd n) _).v [some (.d (.lst (ahead.map dSs))), some (.d (dSs (k :: w'))), none] = _
  by_cases hk : k = sPlace
  · have hahead := ha (by rw [hk]; rfl)
    have hc : compG P (runC P cd n) [2] [2] false .nil (.cmp .Eq (.ix (.v 2) (.k (.int 0))) (.k k83.K_PLACE)) (ahead.map dSs) [some (.d (.lst (ahead.map dSs))), some (.d (dSs (k :: w'))), none] = .ok (.n (.l (ahead.map fun _ => .bl true))) [some (.d (.lst (ahead.map dSs))), some (.d (dSs (k :: w'))), none] := by
      unfold compG
      rw [compF_pure (fun _ => .bl true) (fun _ => true) (by rfl) (by rw [List.length_map]; omega)]
      · rw [List.filter_eq_self.mpr (fun _ _ => rfl), List.map_map]
        rfl
      · intro y hy
        obtain ⟨a, hA, rfl⟩ := List.mem_map.mp hy
        obtain ⟨x, rfl⟩ := hahead a hA
        have e3 : cmps .Eq (.str sPlace) k83.K_PLACE = some true := by
          have : eqD (.str sPlace) k83.K_PLACE = some (decide (sPlace = sPlace)) := emb_str.eqD (by omega) sPlace sPlace
          rw [cmps_eq, this]
          simp
        have hix2 : ixs (dSs [sPlace, x]) (.int 0) = some (.str sPlace) := ixs_t0 _ _
        refine ⟨[some (.d (.lst (ahead.map dSs))), some (.d (dSs (k :: w'))), some (.d (dSs [sPlace, x]))], rfl, rfl, fun _ => ?_, rfl⟩
        simp only [den_cmp, vDen_v, den_ix, op2_v, den_v, den_k, List.getElem?_cons_succ, List.getElem?_cons_zero, bind_ok', view_d, obs, hix2, oms, opt_some', e3, toD_d]
    have hb : blt .all [.lst (ahead.map fun _ => .bl true)] = some (.d (.bl true)) := by
      show (blsOf _).map _ = _
      rw [blsOf_map (fun _ => true)]
      simp
    rw [decide_eq_true hk] at e2
    have hseq : iter .seq [.lst (ahead.map dSs)] = some (ahead.map dSs) := rfl
    simp only [den_and, den_or, vDen_v, den_cmp, den_ix, op2_v, den_v, den_k, den_tup, den_nil, List.getElem?_cons_succ, List.getElem?_cons_zero, bind_ok', toDs_nil, List.length_nil, Nat.zero_le, if_true, view_d, obs, e1, oms, opt_some', asBl_bl, hix, e2, Bool.not_true, den_blt, opL_v, den_cons, den_comp, toDs_cons', toD_d, hseq, hc, views_cons, views_nil, view_n, fz_l, hb]
  · rw [decide_eq_false hk] at e2
    simp only [den_and, den_or, vDen_v, den_cmp, den_ix, op2_v, den_v, den_k, den_tup, den_nil, List.getElem?_cons_succ, List.getElem?_cons_zero, bind_ok', toDs_nil, List.length_nil, Nat.zero_le, if_true, view_d, obs, e1, oms, opt_some', asBl_bl, hix, e2, Bool.not_false]
end
end Hr
end Fl
set_option Elab.async false
set_option linter.all false
set_option maxRecDepth 100000
set_option maxHeartbeats 0
/-! k83, part c: lines of a town. -/
namespace Fl
namespace Hr
open PySem PySem.Spec PyProof.Rows L2
/-- lines with their words -/
structure Lines (qs : List (Str × List Str)) : Prop where
  told : ∀ q ∈ qs, Told q.1 q.2
  len : qs.length ≤ 1000
  first : ∀ (k : Nat) (w : List Str), (qs.map (·.2))[k]? = some w → w.head? = some sPlace → ∀ a ∈ (qs.map (·.2)).take k, ∃ x, a = [sPlace, x]
theorem told_split {r : Str} {w : List Str} (h : Told r w) : Txt.split r " " = w := split_words w (by rcases h.form with ⟨x, rfl⟩ | ⟨x, y, rfl⟩ | ⟨x, y, rfl⟩ <;> simp) (fun x hx => wd_free (h.wd x hx)) h.cps
theorem cut_to {α : Type} (e : α → D) (xs : List α) (k : Nat) (hk : k ≤ xs.length) : cutL (xs.map e) none (some (k : Int)) = (xs.take k).map e := by
  unfold cutL
  rw [HT.sIx_none, HT.sIx_nat, List.drop_zero, List.map_take, List.length_map]
  congr 1
  omega
theorem enum_mem {α : Type} {e : α → D} {xs : List α} {d : D} (h : d ∈ enumD 0 (xs.map e)) : ∃ (k : Nat) (x : α), xs[k]? = some x ∧ d = .tup [.int k, e x] := by
  rw [enumD_map] at h
  obtain ⟨⟨x, k⟩, hm, rfl⟩ := List.mem_map.mp h
  exact ⟨k, x, by simpa using List.mem_zipIdx_iff_getElem?.mp hm, rfl⟩
theorem enumD_len : ∀ (k : Nat) (xs : List D), (enumD k xs).length = xs.length
  | _, [] => rfl
  | k, x :: xs => by show (enumD (k + 1) xs).length + 1 = _; rw [enumD_len]; rfl
section
variable {P : PI} {cd : Nat → Option Code} (s : ShK P cd)
include s
/-- [told_row(row) for row in rows] -/
theorem tells (n : Nat) (qs : List (Str × List Str)) (h : Lines qs) (E : Env) (i : Nat) (hE : E[i]? = some none) (ho : ownOk [i] E = true) (hS : ∀ d, setS i (.d d) (wipeE E [i]) = some (E.set i (some (.d d)))) (hv : ∀ d, (E.set i (some (.d d)))[i]? = some (some (.d d))) (hw : ∀ d, wipeE (E.set i (some (.d d))) [i] = wipeE E [i]) :
    compG P (runC P cd (n + 2)) [i] [i] false .nil (.call 661 (.cons (.v i) .nil)) ((qs.map (·.1)).map .str) E = .ok (.n (.l ((qs.map (·.2)).map dSs))) E := by
  have hSL : (2000 : Nat) ≤ SL := by decide
  have hlen := h.len
  unfold compG
  rw [compF_pure (fun d => match d with | .str r => dSs (Txt.split r " ") | d => d) (fun _ => true) ho (by rw [List.length_map, List.length_map]; omega)]
  · rw [List.filter_eq_self.mpr (fun _ _ => rfl), List.map_map, List.map_map, List.map_map]
    congr 3
    refine List.map_congr_left fun q hq => ?_
    show dSs (Txt.split q.1 " ") = dSs q.2
    rw [told_split (h.told q hq)]
  · intro y hy
    obtain ⟨r, hr, rfl⟩ := List.mem_map.mp hy
    obtain ⟨q, hq, rfl⟩ := List.mem_map.mp hr
    have e := told_ok s n (h.told q hq)
    refine ⟨E.set i (some (.d (.str q.1))), ?_, rfl, fun _ => ?_, hw _⟩
    · show setAll [i] [.str q.1] (wipeE E [i]) = _
      rw [setAll_cons, hS]
      rfl
    · show ((den P (runC P cd (n + 2)) (.call 661 (.cons (.v i) .nil))).v _).bind toD = _
      simp only [den_call, den_cons, den_nil, den_v, vDen_v, hv, bind_ok', calling_data (s.nrK 661 (by simp)), callN_data (s.nrK 661 (by simp)), toDs_cons', toDs_nil, toD_d, List.map_cons, List.map_nil, e, callD_ok, told_split (h.told q hq)]
theorem wrong_rows_ok (n : Nat) (qs : List (Str × List Str)) (h : Lines qs) (hne : qs ≠ []) : runC P cd (n + 3) 663 [] [.d (dSs (qs.map (·.1)))] = .ok (.n (.l [])) [.d .non] := by
  have hSL : (2000 : Nat) ≤ SL := by decide
  have hlen := h.len
  let ws := qs.map (·.2)
  have t1 : blt (.isi .tuple) [(dSs (qs.map (·.1)))] = some (.d (.bl true)) := rfl
  have e1 : cmps .Eq (dSs (qs.map (·.1))) (.tup []) = some false := by
    have : eqD (dSs (qs.map (·.1))) (.tup []) = some (decide (qs.map (·.1) = [])) := emb_Ss.eqD (by omega) (qs.map (·.1)) []
    rw [cmps_eq, this]
    simp [hne]
  have c1 : (den P (runC P cd (n + 2)) (.or (.not (.blt (.isi .tuple) (.cons (.v 0) .nil))) (.cmp .Eq (.v 0) (.tup (.nil))))).t [some (.d (dSs (qs.map (·.1)))), none, none, none, none] = .ok false [some (.d (dSs (qs.map (·.1)))), none, none, none, none] := by
    simp only [den_or, den_not, den_blt, opL_t, den_cmp, vDen_t, den_cons, den_nil, den_v, den_tup, vDen_v, List.getElem?_cons_zero, bind_ok', views_cons, views_nil, view_d, obs, oms, t1, opt_some', truth_bl, Bool.not_true, toDs_nil, List.length_nil, Nat.zero_le, if_true, e1]
  have hc := tells s n qs h [some (.d (dSs (qs.map (·.1)))), none, none, none, none] 2 rfl rfl (fun _ => rfl) (fun _ => rfl) (fun _ => rfl)
  have hseq : iter .seq [(dSs (qs.map (·.1)))] = some ((qs.map (·.1)).map .str) := rfl
  have a1 : denS P (runC P cd (n + 2)) (.asg 1 (.comp (.call 661 (.cons (.v 2) .nil)) [2] false .seq (.cons (.v 0) .nil) (.nil) [2])) [some (.d (dSs (qs.map (·.1)))), none, none, none, none] = .nx [some (.d (dSs (qs.map (·.1)))), some (.m true (.l (ws.map dSs))), none, none, none] := by
    refine asg_ok (r := .n (.l (ws.map dSs))) (v := .m true (.l (ws.map dSs))) (ρ1 := [some (.d (dSs (qs.map (·.1)))), none, none, none, none]) ?_ rfl rfl
    simp only [den_comp, vDen_v, den_cons, den_nil, den_v, List.getElem?_cons_zero, bind_ok', toDs_cons', toDs_nil, toD_d, hseq, opt_some']
    exact hc
  have hc2 : compG P (runC P cd (n + 2)) [3, 4] [3, 4] true (.not (.call 662 (.cons (.sl (.v 1) (.nil) (.v 3)) (.cons (.v 4) .nil)))) (.v 3) (enumD 0 (ws.map dSs)) [some (.d (dSs (qs.map (·.1)))), some (.d (.lst (ws.map dSs))), none, none, none] = .ok (.n (.l [])) [some (.d (dSs (qs.map (·.1)))), some (.d (.lst (ws.map dSs))), none, none, none] := by
    unfold compG
    rw [compF_pure (fun d => d) (fun _ => false) (by rfl) (by rw [enumD_len, List.length_map, List.length_map]; omega)]
    · rw [List.filter_eq_nil_iff.mpr (fun _ _ => by simp)]
      rfl
    · intro y hy
      obtain ⟨k, w, hk, rfl⟩ := enum_mem hy
      have hkl : k < ws.length := (List.getElem?_eq_some_iff.mp hk).1
      have hwl : ws.length = qs.length := List.length_map ..
      have hT : ∀ a ∈ ws, ∃ r, Told r a := fun a ha => by
        obtain ⟨q, hq, rfl⟩ := List.mem_map.mp ha
        exact ⟨q.1, h.told q hq⟩
      obtain ⟨r, hr⟩ := hT w (List.mem_of_getElem? hk)
      have q := may_ok s (n + 1) (ws.take k) w (by rw [List.length_take]; omega) hr.form (fun hh => h.first k w hk hh) (fun a ha => by
        obtain ⟨r, hr⟩ := hT a (List.mem_of_mem_take ha)
        rcases hr.form with ⟨x, rfl⟩ | ⟨x, y, rfl⟩ | ⟨x, y, rfl⟩ <;> exact ⟨_, _, rfl⟩)
      have hcut : sls (.lst (ws.map dSs)) none (some (k : Int)) = some (.n (.l ((ws.take k).map dSs))) := by
        show some (RV.n (.l (cutL (ws.map dSs) none (some (k : Int))))) = _
        rw [cut_to dSs ws k (by omega)]
      refine ⟨[some (.d (dSs (qs.map (·.1)))), some (.d (.lst (ws.map dSs))), none, some (.d (.int k)), some (.d (dSs w))], rfl, ?_, (fun z => nomatch z), rfl⟩
      simp only [den_not, vDen_t, den_call, den_cons, den_nil, den_sl, vDen_v, den_v, List.getElem?_cons_succ, List.getElem?_cons_zero, bind_ok', isNil, partOf, view_d, obs, hcut, opt_some', calling_data (s.nrK 662 (by simp)), callN_data (s.nrK 662 (by simp)), toDs_cons', toDs_nil, toD_d, toD_n, fz_l, List.map_cons, List.map_nil, q, callD_ok, truth_bl, Bool.not_true]
  have henum : iter .enum [.lst (ws.map dSs)] = some (enumD 0 (ws.map dSs)) := rfl
  have hsl : sls (.lst []) none (some 1) = some (.n (.l [])) := rfl
  have a2 : denS P (runC P cd (n + 2)) (.ret (.sl (.comp (.v 3) [3, 4] true .enum (.cons (.v 1) .nil) (.not (.call 662 (.cons (.sl (.v 1) (.nil) (.v 3)) (.cons (.v 4) .nil)))) [3, 4]) (.nil) (.k (.int 1)))) [some (.d (dSs (qs.map (·.1)))), some (.m true (.l (ws.map dSs))), none, none, none] = .rt (.n (.l [])) [some (.d (dSs (qs.map (·.1)))), some (.d (.lst (ws.map dSs))), none, none, none] := by
    refine ret_n ?_
    rw [den_sl]
    simp only [vDen_v, den_comp, den_cons, den_nil, den_v, List.getElem?_cons_succ, List.getElem?_cons_zero, bind_ok', toDs_cons', toDs_nil, toD_sl, toX_m, fz_l, List.set_cons_succ, List.set_cons_zero, henum, opt_some', hc2, isNil, partOf, den_k, view_n, obs, hsl]
  exact (run_rt s.c663 ⟨rfl, rfl⟩ ((seq_nx (ite_f c1)).trans ((seq_nx a1).trans (seq_rt a2)))).trans rfl
end
end Hr
end Fl
set_option Elab.async false
set_option linter.all false
set_option maxRecDepth 100000
set_option maxHeartbeats 0
/-! k83, part d: what lines tell; lines of a town. -/
namespace Fl
namespace Hr
open PySem PySem.Spec PyProof.Rows L2
theorem min_two (x y : Str) : blt .min [.tup [.str x, .str y]] = some (.d (.str (if sl y x then y else x))) := by
  have e : blt .min [.tup [.str x, .str y]] = if alikeB [.str x, .str y] = true ∧ [PyData.str x, .str y].all isFlatK = true then some (.d (ofPy (W.minD (.str x) [.str y]))) else none := rfl
  have c : alikeB [.str x, .str y] = true ∧ [PyData.str x, .str y].all isFlatK = true := by simp [alikeB, W.alike, isFlatK]
  rw [e, if_pos c]
  unfold W.minD
  show some (RV.d (ofPy (if W.dataLt (.str y) (.str x) = true then .str y else .str x))) = _
  rw [lt_str]
  by_cases h : sl y x
  · rw [if_pos (decide_eq_true h), if_pos h]; rfl
  · rw [if_neg (by simp [h]), if_neg h]; rfl
theorem max_two (x y : Str) : blt .max [.tup [.str x, .str y]] = some (.d (.str (if sl x y then y else x))) := by
  have e : blt .max [.tup [.str x, .str y]] = if alikeB [.str x, .str y] = true ∧ [PyData.str x, .str y].all isFlatK = true then some (.d (ofPy (W.maxD (.str x) [.str y]))) else none := rfl
  have c : alikeB [.str x, .str y] = true ∧ [PyData.str x, .str y].all isFlatK = true := by simp [alikeB, W.alike, isFlatK]
  rw [e, if_pos c]
  unfold W.maxD
  show some (RV.d (ofPy (if W.dataLt (.str x) (.str y) = true then .str y else .str x))) = _
  rw [lt_str]
  by_cases h : sl x y
  · rw [if_pos (decide_eq_true h), if_pos h]; rfl
  · rw [if_neg (by simp [h]), if_neg h]; rfl
theorem way_ne_street : ¬ sWay = sStreet := by decide +kernel
theorem street_ne_place : ¬ sStreet = sPlace := by decide +kernel
theorem way_ne_place : ¬ sWay = sPlace := by decide +kernel
theorem eq_street (k : Str) : cmps .Eq (.str k) k83.K_STREET = some (decide (k = sStreet)) := by
  have : eqD (.str k) k83.K_STREET = some (decide (k = sStreet)) := emb_str.eqD (by omega) k sStreet
  rw [cmps_eq, this]
theorem eq_place (k : Str) : cmps .Eq (.str k) k83.K_PLACE = some (decide (k = sPlace)) := by
  have : eqD (.str k) k83.K_PLACE = some (decide (k = sPlace)) := emb_str.eqD (by omega) k sPlace
  rw [cmps_eq, this]
theorem ne_place (k : Str) : cmps .NotEq (.str k) k83.K_PLACE = some (!decide (k = sPlace)) := by
  have : eqD (.str k) k83.K_PLACE = some (decide (k = sPlace)) := emb_str.eqD (by omega) k sPlace
  rw [cmps_ne, this]
  rfl
theorem lt_strD (x y : Str) : cmps .Lt (.str x) (.str y) = some (decide (sl x y)) := ord_str x y
/-- the street, the number that a line's words tell -/
def strT : D → D
  | .tup [.str k, .str x, .str y] => if k = sStreet then .tup [.str x, .str y] else .tup [.str (if sl y x then y else x), .str (if sl x y then y else x)]
  | d => d
def numT : D → D
  | .tup [.str k, .str x, .str y] => if k = sStreet then .int 0 else if sl x y then .int 1 else .int (-1)
  | d => d
theorem strT3 (k x y : Str) : strT (dSs [k, x, y]) = if k = sStreet then .tup [.str x, .str y] else .tup [.str (if sl y x then y else x), .str (if sl x y then y else x)] := rfl
theorem numT3 (k x y : Str) : numT (dSs [k, x, y]) = if k = sStreet then .int 0 else if sl x y then .int 1 else .int (-1) := rfl
theorem strT_ok {p : Str × Str} (h : sl p.1 p.2) (i : Int) : strT (dSs (wS p i)) = dP p := by
  have h' := sl_asymm h
  unfold wS
  split
  · rw [strT3, if_pos rfl]
  · split
    · rw [strT3, if_neg way_ne_street, if_neg h', if_pos h]
    · rw [strT3, if_neg way_ne_street, if_pos h, if_neg h']
theorem numT_ok {p : Str × Str} (h : sl p.1 p.2) {i : Int} (hi : isW i) : numT (dSs (wS p i)) = .int i := by
  have h' := sl_asymm h
  unfold wS
  split
  · rename_i e
    rw [numT3, if_pos rfl, e]
  · split
    · rename_i e
      rw [numT3, if_neg way_ne_street, if_pos h, e]
    · have : i = -1 := by rcases hi with e | e | e <;> omega
      rw [numT3, if_neg way_ne_street, if_neg h', this]
section
variable {P : PI} {cd : Nat → Option Code} (s : ShK P cd)
include s
theorem stold_ok (n : Nat) (k x y : Str) : runC P cd (n + 1) 664 [] [.d (dSs [k, x, y])] = .ok (.d (strT (dSs [k, x, y]))) [.d .non] := by
  have hix : ixs (dSs [k, x, y]) (.int 0) = some (.str k) := ixs_t0 _ _
  have hcut : sls (dSs [k, x, y]) (some 1) none = some (.d (.tup [.str x, .str y])) := rfl
  have hmin := min_two x y
  have hmax := max_two x y
  have c1 : (den P (runC P cd n) (.cmp .Eq (.ix (.v 0) (.k (.int 0))) (.k k83.K_STREET))).t [some (.d (dSs [k, x, y]))] = .ok (decide (k = sStreet)) [some (.d (dSs [k, x, y]))] := by
    simp only [den_cmp, vDen_t, den_ix, op2_v, den_v, den_k, vDen_v, List.getElem?_cons_zero, bind_ok', view_d, obs, hix, oms, opt_some', eq_street, truth_bl]
  refine (run_rt s.c664 ⟨rfl, rfl⟩ (seq_rt (ret_d (v := strT (dSs [k, x, y])) (ρ1 := [some (.d (dSs [k, x, y]))]) ?_))).trans rfl
  show (den P (runC P cd n) (.ite _ _ _)).v [some (.d (dSs [k, x, y]))] = _
  by_cases hk : k = sStreet
  · rw [decide_eq_true hk] at c1
    have e : strT (dSs [k, x, y]) = .tup [.str x, .str y] := if_pos hk
    rw [e, vite_t c1]
    simp only [den_sl, vDen_v, den_v, List.getElem?_cons_zero, bind_ok', isNil, partOf, den_k, view_d, obs, hcut, opt_some']
  · rw [decide_eq_false hk] at c1
    have e : strT (dSs [k, x, y]) = .tup [.str (if sl y x then y else x), .str (if sl x y then y else x)] := if_neg hk
    rw [e, vite_f c1]
    simp only [den_tup, den_cons, den_nil, den_blt, opL_v, den_sl, vDen_v, den_v, List.getElem?_cons_zero, bind_ok', isNil, partOf, den_k, view_d, obs, hcut, opt_some', views_cons, views_nil, hmin, hmax, toDs_cons', toDs_nil, toD_d, two_le, if_true]
theorem ntold_ok (n : Nat) (k x y : Str) : runC P cd (n + 1) 665 [] [.d (dSs [k, x, y])] = .ok (.d (numT (dSs [k, x, y]))) [.d .non] := by
  have hix : ixs (dSs [k, x, y]) (.int 0) = some (.str k) := ixs_t0 _ _
  have hix1 : ixs (dSs [k, x, y]) (.int 1) = some (.str x) := ixs_t1 _ _ _
  have hix2 : ixs (dSs [k, x, y]) (.int 2) = some (.str y) := ixs_t2 _ _ _ _
  have c1 : (den P (runC P cd n) (.cmp .Eq (.ix (.v 0) (.k (.int 0))) (.k k83.K_STREET))).t [some (.d (dSs [k, x, y]))] = .ok (decide (k = sStreet)) [some (.d (dSs [k, x, y]))] := by
    simp only [den_cmp, vDen_t, den_ix, op2_v, den_v, den_k, vDen_v, List.getElem?_cons_zero, bind_ok', view_d, obs, hix, oms, opt_some', eq_street, truth_bl]
  by_cases hk : k = sStreet
  · rw [decide_eq_true hk] at c1
    have e : numT (dSs [k, x, y]) = .int 0 := if_pos hk
    rw [e]
    exact (run_rt s.c665 ⟨rfl, rfl⟩ (seq_rt ((ite_t c1).trans (seq_rt (ret_d (v := .int 0) (ρ1 := [some (.d (dSs [k, x, y]))]) rfl))))).trans rfl
  · rw [decide_eq_false hk] at c1
    have e : numT (dSs [k, x, y]) = if sl x y then .int 1 else .int (-1) := if_neg hk
    have c2 : (den P (runC P cd n) (.cmp .Lt (.ix (.v 0) (.k (.int 1))) (.ix (.v 0) (.k (.int 2))))).t [some (.d (dSs [k, x, y]))] = .ok (decide (sl x y)) [some (.d (dSs [k, x, y]))] := by
      simp only [den_cmp, vDen_t, den_ix, op2_v, den_v, den_k, vDen_v, List.getElem?_cons_zero, bind_ok', view_d, obs, hix1, hix2, oms, opt_some', lt_strD, truth_bl]
    rw [e]
    refine (run_rt s.c665 ⟨rfl, rfl⟩ ((seq_nx (ite_f c1)).trans (seq_rt (ret_d (v := if sl x y then .int 1 else .int (-1)) (ρ1 := [some (.d (dSs [k, x, y]))]) ?_)))).trans rfl
    show (den P (runC P cd n) (.ite _ _ _)).v [some (.d (dSs [k, x, y]))] = _
    by_cases hs : sl x y
    · rw [decide_eq_true hs] at c2
      rw [vite_t c2, if_pos hs]; rfl
    · rw [decide_eq_false hs] at c2
      rw [vite_f c2, if_neg hs]; rfl
end
/-! ### the lines of a town -/
def qsOf (pl : List Str) (ss : List (Str × Str)) (plan : List Int) : List (Str × List Str) := pl.map (fun x => (rowP x, wP x)) ++ (ss.zip plan).map fun q => (rowS q.1 q.2, wS q.1 q.2)
theorem qs_rows (pl : List Str) (ss : List (Str × Str)) (plan : List Int) : (qsOf pl ss plan).map (·.1) = rowsOf pl ss plan := by
  unfold qsOf rowsOf
  rw [List.map_append, List.map_map, List.map_map]
  rfl
theorem qs_ws (pl : List Str) (ss : List (Str × Str)) (plan : List Int) : (qsOf pl ss plan).map (·.2) = wsOf pl ss plan := by
  unfold qsOf wsOf
  rw [List.map_append, List.map_map, List.map_map]
  rfl
theorem wS_form (p : Str × Str) (i : Int) : ∃ k x y, wS p i = [k, x, y] ∧ ¬ k = sPlace := by
  unfold wS
  split
  · exact ⟨_, _, _, rfl, street_ne_place⟩
  · split
    · exact ⟨_, _, _, rfl, way_ne_place⟩
    · exact ⟨_, _, _, rfl, way_ne_place⟩
theorem lines_ok {pl : List Str} {ss : List (Str × Str)} {plan : List Int} (t : TownOk pl ss) : Lines (qsOf pl ss plan) := by
  refine ⟨fun q hq => ?_, ?_, fun k w hk hw a ha => ?_⟩
  · rcases List.mem_append.mp hq with h | h
    · obtain ⟨x, hx, rfl⟩ := List.mem_map.mp h
      exact told_P (t.nm x hx)
    · obtain ⟨⟨p, i⟩, hx, rfl⟩ := List.mem_map.mp h
      have hp : p ∈ ss := (List.of_mem_zip hx).1
      obtain ⟨m1, m2, _⟩ := t.str.mem p hp
      exact told_S (t.nm _ m1) (t.nm _ m2) i
  · unfold qsOf
    rw [List.length_append, List.length_map, List.length_map, List.length_zip]
    have := t.eight
    have := t.str.len
    omega
  · rw [qs_ws] at hk ha
    unfold wsOf at hk ha
    by_cases hkl : k < pl.length
    · rw [List.take_append_of_le_length (by rw [List.length_map]; omega)] at ha
      obtain ⟨x, _, rfl⟩ := List.mem_map.mp (List.mem_of_mem_take ha)
      exact ⟨x, rfl⟩
    · rw [List.getElem?_append_right (by rw [List.length_map]; omega)] at hk
      obtain ⟨⟨p, i⟩, _, rfl⟩ := List.mem_map.mp (List.mem_of_getElem? hk)
      obtain ⟨k', x, y, e, hn⟩ := wS_form p i
      have hw : (wS p i).head? = some sPlace := hw
      rw [e] at hw
      exact absurd (Option.some.inj hw) hn
end Hr
end Fl
set_option Elab.async false
set_option linter.all false
set_option maxRecDepth 100000
set_option maxHeartbeats 0
/-! k83, part e: what lines tell, whole; a text read. -/
namespace Fl
namespace Hr
open PySem PySem.Spec PyProof.Rows L2
def secT : D → D
  | .tup (_ :: x :: _) => x
  | d => d
def isPl : D → Bool
  | .tup (.str k :: _) => decide (k = sPlace)
  | _ => false
theorem isPl_P (x : Str) : isPl (dSs (wP x)) = true := (decide_eq_true rfl : decide (sPlace = sPlace) = true)
theorem isPl_S (p : Str × Str) (i : Int) : isPl (dSs (wS p i)) = false := by
  obtain ⟨k, x, y, e, hn⟩ := wS_form p i
  rw [e]
  exact decide_eq_false hn
abbrev oth (ss : List (Str × Str)) (plan : List Int) : List D := (ss.zip plan).map fun q => dSs (wS q.1 q.2)
theorem ws_map (pl : List Str) (ss : List (Str × Str)) (plan : List Int) : (wsOf pl ss plan).map dSs = (pl.map fun x => dSs (wP x)) ++ oth ss plan := by
  unfold wsOf
  rw [List.map_append, List.map_map, List.map_map]
  rfl
theorem f_places (pl : List Str) (ss : List (Str × Str)) (plan : List Int) : ((((wsOf pl ss plan).map dSs).filter isPl).map secT) = pl.map D.str := by
  rw [ws_map, List.filter_append]
  have h1 : (pl.map fun x => dSs (wP x)).filter isPl = pl.map fun x => dSs (wP x) := List.filter_eq_self.mpr fun d hd => by
    obtain ⟨x, _, rfl⟩ := List.mem_map.mp hd
    exact isPl_P x
  have h2 : (oth ss plan).filter isPl = [] := List.filter_eq_nil_iff.mpr fun d hd => by
    obtain ⟨q, _, rfl⟩ := List.mem_map.mp hd
    rw [isPl_S]
    simp
  rw [h1, h2, List.append_nil, List.map_map]
  rfl
theorem f_oth (pl : List Str) (ss : List (Str × Str)) (plan : List Int) : (((wsOf pl ss plan).map dSs).filter fun d => !isPl d) = oth ss plan := by
  rw [ws_map, List.filter_append]
  have h1 : (pl.map fun x => dSs (wP x)).filter (fun d => !isPl d) = [] := List.filter_eq_nil_iff.mpr fun d hd => by
    obtain ⟨x, _, rfl⟩ := List.mem_map.mp hd
    rw [isPl_P]
    simp
  have h2 : (oth ss plan).filter (fun d => !isPl d) = oth ss plan := List.filter_eq_self.mpr fun d hd => by
    obtain ⟨q, _, rfl⟩ := List.mem_map.mp hd
    rw [isPl_S]
    rfl
  rw [h1, h2, List.nil_append]
theorem oth_str {pl : List Str} {ss : List (Str × Str)} {plan : List Int} (t : StrOk pl ss) (hp : PlanOk ss.length plan) : (oth ss plan).map strT = ss.map dP := by
  rw [List.map_map]
  have : (ss.zip plan).map (strT ∘ fun q => dSs (wS q.1 q.2)) = (ss.zip plan).map fun q => dP q.1 := List.map_congr_left fun q hq => strT_ok (t.mem q.1 (List.of_mem_zip hq).1).2.2 q.2
  rw [this]
  have e : (ss.zip plan).map Prod.fst = ss := List.map_fst_zip (by rw [hp.len]; exact Nat.le_refl _)
  have : (ss.zip plan).map (fun q => dP q.1) = ((ss.zip plan).map Prod.fst).map dP := by rw [List.map_map]; rfl
  rw [this, e]
theorem oth_num {pl : List Str} {ss : List (Str × Str)} {plan : List Int} (t : StrOk pl ss) (hp : PlanOk ss.length plan) : (oth ss plan).map numT = plan.map D.int := by
  rw [List.map_map]
  have : (ss.zip plan).map (numT ∘ fun q => dSs (wS q.1 q.2)) = (ss.zip plan).map fun q => D.int q.2 := List.map_congr_left fun q hq => numT_ok (t.mem q.1 (List.of_mem_zip hq).1).2.2 (hp.way _ (List.of_mem_zip hq).2)
  rw [this]
  have e : (ss.zip plan).map Prod.snd = plan := List.map_snd_zip (by rw [hp.len]; exact Nat.le_refl _)
  have : (ss.zip plan).map (fun q => D.int q.2) = ((ss.zip plan).map Prod.snd).map D.int := by rw [List.map_map]; rfl
  rw [this, e]
section
variable {P : PI} {cd : Nat → Option Code} (s : ShK P cd)
include s
theorem parts_told_ok (n : Nat) {pl : List Str} {ss : List (Str × Str)} {plan : List Int} (t : TownOk pl ss) (hp : PlanOk ss.length plan) : runC P cd (n + 3) 666 [] [.d (dSs (rowsOf pl ss plan))] = .ok (.d (.tup [dParts pl ss, dIs plan])) [.d .non] := by
  have hSL : (2000 : Nat) ≤ SL := by decide
  have hL := lines_ok (plan := plan) t
  have hrows := qs_rows pl ss plan
  have hws := qs_ws pl ss plan
  have hlen : (wsOf pl ss plan).length ≤ 1000 := by
    rw [← hws, List.length_map]
    exact hL.len
  have hol : (oth ss plan).length ≤ 1000 := by
    rw [List.length_map, List.length_zip]
    have := t.str.len
    omega
  generalize hR : dSs (rowsOf pl ss plan) = R0
  have hseq : iter .seq [R0] = some (((qsOf pl ss plan).map (·.1)).map .str) := by rw [← hR, hrows]; rfl
  have hc1 := tells s n (qsOf pl ss plan) hL [some (.d R0), none, none, none, none, none] 2 rfl rfl (fun _ => rfl) (fun _ => rfl) (fun _ => rfl)
  rw [hws] at hc1
  generalize hW : (wsOf pl ss plan).map dSs = W at hc1
  have hWl : W.length ≤ 1000 := by rw [← hW, List.length_map]; exact hlen
  have hWm : ∀ d ∈ W, ∃ k x r, d = .tup (.str k :: .str x :: r) := fun d hd => by
    rw [← hW, ws_map] at hd
    rcases List.mem_append.mp hd with h | h
    · obtain ⟨x, _, rfl⟩ := List.mem_map.mp h
      exact ⟨_, _, _, rfl⟩
    · obtain ⟨q, _, rfl⟩ := List.mem_map.mp h
      obtain ⟨k, x, y, e, _⟩ := wS_form q.1 q.2
      rw [e]
      exact ⟨_, _, _, rfl⟩
  have a1 : denS P (runC P cd (n + 2)) (.asg 1 (.comp (.call 661 (.cons (.v 2) .nil)) [2] false .seq (.cons (.v 0) .nil) (.nil) [2])) [some (.d R0), none, none, none, none, none] = .nx [some (.d R0), some (.m true (.l W)), none, none, none, none] := by
    refine asg_ok (r := .n (.l W)) (v := .m true (.l W)) (ρ1 := [some (.d R0), none, none, none, none, none]) ?_ rfl rfl
    simp only [den_comp, vDen_v, den_cons, den_nil, den_v, List.getElem?_cons_zero, bind_ok', toDs_cons', toDs_nil, toD_d, hseq, opt_some']
    exact hc1
  have hWseq : iter .seq [.lst W] = some W := rfl
  have hplaces : (W.filter isPl).map secT = pl.map D.str := by rw [← hW]; exact f_places pl ss plan
  have hoth : (W.filter fun d => !isPl d) = oth ss plan := by rw [← hW]; exact f_oth pl ss plan
  have hc2 : compG P (runC P cd (n + 2)) [4] [4] false (.cmp .Eq (.ix (.v 4) (.k (.int 0))) (.k k83.K_PLACE)) (.ix (.v 4) (.k (.int 1))) W [some (.d R0), some (.d (.lst W)), none, none, none, none] = .ok (.n (.l (pl.map D.str))) [some (.d R0), some (.d (.lst W)), none, none, none, none] := by
    rw [← hplaces]
    unfold compG
    rw [compF_pure secT isPl (by rfl) (by omega)]
    intro y hy
    obtain ⟨k, x, r, rfl⟩ := hWm y hy
    refine ⟨[some (.d R0), some (.d (.lst W)), none, none, some (.d (.tup (.str k :: .str x :: r))), none], rfl, ?_, fun _ => ?_, rfl⟩
    · simp only [den_cmp, vDen_t, den_ix, op2_v, den_v, den_k, vDen_v, List.getElem?_cons_succ, List.getElem?_cons_zero, bind_ok', view_d, obs, ixs_t0, oms, opt_some', eq_place, truth_bl]
      rfl
    · simp only [den_ix, op2_v, den_v, den_k, vDen_v, List.getElem?_cons_succ, List.getElem?_cons_zero, bind_ok', view_d, obs, ixs_t1, oms, opt_some', toD_d]
      rfl
  have a2 : denS P (runC P cd (n + 2)) (.asg 3 (.blt .tuple (.cons (.comp (.ix (.v 4) (.k (.int 1))) [4] false .seq (.cons (.v 1) .nil) (.cmp .Eq (.ix (.v 4) (.k (.int 0))) (.k k83.K_PLACE)) [4]) .nil))) [some (.d R0), some (.m true (.l W)), none, none, none, none] = .nx [some (.d R0), some (.d (.lst W)), none, some (.d (dSs pl)), none, none] := by
    refine asg_ok (r := .d (dSs pl)) (v := .d (dSs pl)) (ρ1 := [some (.d R0), some (.d (.lst W)), none, none, none, none]) ?_ rfl rfl
    have htup : blt .tuple [.lst (pl.map D.str)] = some (.d (dSs pl)) := rfl
    simp only [den_blt, opL_v, den_cons, den_nil, den_comp, vDen_v, den_v, List.getElem?_cons_succ, List.getElem?_cons_zero, bind_ok', toDs_cons', toDs_nil, toD_sl, toX_m, fz_l, List.set_cons_succ, List.set_cons_zero, hWseq, opt_some', hc2, views_cons, views_nil, view_n, obs, htup]
  have hc3 : compG P (runC P cd (n + 2)) [4] [4] false (.cmp .NotEq (.ix (.v 4) (.k (.int 0))) (.k k83.K_PLACE)) (.v 4) W [some (.d R0), some (.d (.lst W)), none, some (.d (dSs pl)), none, none] = .ok (.n (.l (oth ss plan))) [some (.d R0), some (.d (.lst W)), none, some (.d (dSs pl)), none, none] := by
    rw [← hoth]
    unfold compG
    rw [compF_pure (fun d => d) (fun d => !isPl d) (by rfl) (by omega)]
    · rw [List.map_id'']
      exact fun _ => rfl
    · intro y hy
      obtain ⟨k, x, r, rfl⟩ := hWm y hy
      refine ⟨[some (.d R0), some (.d (.lst W)), none, some (.d (dSs pl)), some (.d (.tup (.str k :: .str x :: r))), none], rfl, ?_, fun _ => rfl, rfl⟩
      simp only [den_cmp, vDen_t, den_ix, op2_v, den_v, den_k, vDen_v, List.getElem?_cons_succ, List.getElem?_cons_zero, bind_ok', view_d, obs, ixs_t0, oms, opt_some', ne_place, truth_bl]
      rfl
  have a3 : denS P (runC P cd (n + 2)) (.asg 5 (.comp (.v 4) [4] false .seq (.cons (.v 1) .nil) (.cmp .NotEq (.ix (.v 4) (.k (.int 0))) (.k k83.K_PLACE)) [4])) [some (.d R0), some (.d (.lst W)), none, some (.d (dSs pl)), none, none] = .nx [some (.d R0), some (.d (.lst W)), none, some (.d (dSs pl)), none, some (.m true (.l (oth ss plan)))] := by
    refine asg_ok (r := .n (.l (oth ss plan))) (v := .m true (.l (oth ss plan))) (ρ1 := [some (.d R0), some (.d (.lst W)), none, some (.d (dSs pl)), none, none]) ?_ rfl rfl
    simp only [den_comp, vDen_v, den_cons, den_nil, den_v, List.getElem?_cons_succ, List.getElem?_cons_zero, bind_ok', toDs_cons', toDs_nil, toD_d, hWseq, opt_some']
    exact hc3
  have hOm : ∀ d ∈ oth ss plan, ∃ k x y, d = dSs [k, x, y] := fun d hd => by
    obtain ⟨q, _, rfl⟩ := List.mem_map.mp hd
    obtain ⟨k, x, y, e, _⟩ := wS_form q.1 q.2
    rw [e]
    exact ⟨_, _, _, rfl⟩
  have hstr := oth_str t.str hp
  have hnum := oth_num t.str hp
  generalize oth ss plan = O at *
  have hOseq : iter .seq [.lst O] = some O := rfl
  have hc4 : compG P (runC P cd (n + 2)) [4] [4] false .nil (.call 664 (.cons (.v 4) .nil)) O [some (.d R0), some (.d (.lst W)), none, some (.d (dSs pl)), none, some (.d (.lst O))] = .ok (.n (.l (ss.map dP))) [some (.d R0), some (.d (.lst W)), none, some (.d (dSs pl)), none, some (.d (.lst O))] := by
    unfold compG
    rw [compF_pure strT (fun _ => true) (by rfl) (by omega)]
    · rw [List.filter_eq_self.mpr (fun _ _ => rfl), hstr]
    · intro y hy
      obtain ⟨k, x, z, rfl⟩ := hOm y hy
      have q := stold_ok s (n + 1) k x z
      refine ⟨[some (.d R0), some (.d (.lst W)), none, some (.d (dSs pl)), some (.d (dSs [k, x, z])), some (.d (.lst O))], rfl, rfl, fun _ => ?_, rfl⟩
      simp only [den_call, den_cons, den_nil, den_v, vDen_v, List.getElem?_cons_succ, List.getElem?_cons_zero, bind_ok', calling_data (s.nrK 664 (by simp)), callN_data (s.nrK 664 (by simp)), toDs_cons', toDs_nil, toD_d, List.map_cons, List.map_nil, q, callD_ok]
  have hc5 : compG P (runC P cd (n + 2)) [4] [4] false .nil (.call 665 (.cons (.v 4) .nil)) O [some (.d R0), some (.d (.lst W)), none, some (.d (dSs pl)), none, some (.d (.lst O))] = .ok (.n (.l (plan.map D.int))) [some (.d R0), some (.d (.lst W)), none, some (.d (dSs pl)), none, some (.d (.lst O))] := by
    unfold compG
    rw [compF_pure numT (fun _ => true) (by rfl) (by omega)]
    · rw [List.filter_eq_self.mpr (fun _ _ => rfl), hnum]
    · intro y hy
      obtain ⟨k, x, z, rfl⟩ := hOm y hy
      have q := ntold_ok s (n + 1) k x z
      refine ⟨[some (.d R0), some (.d (.lst W)), none, some (.d (dSs pl)), some (.d (dSs [k, x, z])), some (.d (.lst O))], rfl, rfl, fun _ => ?_, rfl⟩
      simp only [den_call, den_cons, den_nil, den_v, vDen_v, List.getElem?_cons_succ, List.getElem?_cons_zero, bind_ok', calling_data (s.nrK 665 (by simp)), callN_data (s.nrK 665 (by simp)), toDs_cons', toDs_nil, toD_d, List.map_cons, List.map_nil, q, callD_ok]
  have a4 : denS P (runC P cd (n + 2)) (.ret (.tup (.cons (.tup (.cons (.v 3) (.cons (.blt .tuple (.cons (.comp (.call 664 (.cons (.v 4) .nil)) [4] false .seq (.cons (.v 5) .nil) (.nil) [4]) .nil)) .nil))) (.cons (.blt .tuple (.cons (.comp (.call 665 (.cons (.v 4) .nil)) [4] false .seq (.cons (.v 5) .nil) (.nil) [4]) .nil)) .nil)))) [some (.d R0), some (.d (.lst W)), none, some (.d (dSs pl)), none, some (.m true (.l O))] = .rt (.d (.tup [dParts pl ss, dIs plan])) [some (.d R0), some (.d (.lst W)), none, some (.d (dSs pl)), none, some (.d (.lst O))] := by
    refine ret_d ?_
    have ht1 : blt .tuple [.lst (ss.map dP)] = some (.d (dPs ss)) := rfl
    have ht2 : blt .tuple [.lst (plan.map D.int)] = some (.d (dIs plan)) := rfl
    simp only [den_tup, den_cons, den_nil, den_blt, opL_v, den_comp, vDen_v, den_v, List.getElem?_cons_succ, List.getElem?_cons_zero, bind_ok', toDs_cons', toDs_nil, toD_sl, toX_m, fz_l, List.set_cons_succ, List.set_cons_zero, hOseq, opt_some', hc4, hc5, views_cons, views_nil, view_n, obs, ht1, ht2, toD_d, two_le, if_true]
  exact (run_rt s.c666 ⟨rfl, rfl⟩ ((seq_nx a1).trans ((seq_nx a2).trans ((seq_nx a3).trans (seq_rt a4))))).trans rfl
theorem town_of_ok (n : Nat) {pl : List Str} {ss : List (Str × Str)} (t : TownOk pl ss) : runC P cd (n + 8) 660 [] [.d (dParts pl ss)] = .ok (.n (.i 6 [(3, dParts pl ss)])) [.d .non] := by
  have q := new_ok s.toShT n t [some (.d (dParts pl ss)), some (.d (dSs pl)), some (.d (dPs ss))]
  have a1 : denS P (runC P cd (n + 7)) (.asgT [.s 1, .s 2] (.v 0)) [some (.d (dParts pl ss)), none, none] = .nx [some (.d (dParts pl ss)), some (.d (dSs pl)), some (.d (dPs ss))] := rfl
  refine (run_rt s.c660 ⟨rfl, rfl⟩ ((seq_nx a1).trans (seq_rt (ret_n (o := .i 6 [(3, dParts pl ss)]) (ρ1 := [some (.d (dParts pl ss)), some (.d (dSs pl)), some (.d (dPs ss))]) ?_)))).trans rfl
  simp only [den_new, den_cons, den_nil, den_v, vDen_v, List.getElem?_cons_succ, List.getElem?_cons_zero, bind_ok', q]
theorem read_ok (n : Nat) {pl : List Str} {ss : List (Str × Str)} {plan : List Int} (t : TownOk pl ss) (hp : PlanOk ss.length plan) : runC P cd (n + 9) 670 [] [.d (dSs (rowsOf pl ss plan))] = .ok (.d (.tup [dT pl ss, dIs plan])) [.d .non] := by
  have hL := lines_ok (plan := plan) t
  have hne : qsOf pl ss plan ≠ [] := by
    unfold qsOf
    have := t.one
    cases pl with
    | nil => simp at this
    | cons x r => simp
  have q1 := wrong_rows_ok s (n + 5) (qsOf pl ss plan) hL hne
  rw [qs_rows] at q1
  have q2 := parts_told_ok s (n + 5) t hp
  have q3 := town_of_ok s n t
  generalize dSs (rowsOf pl ss plan) = R0 at q1 q2
  have hnil : iter .seq [.lst []] = some [] := rfl
  have a1 : denS P (runC P cd (n + 8)) (.for_ [1] false .seq (.cons (.call 663 (.cons (.v 0) .nil)) .nil) (.cons (.never) .nil)) [some (.d R0), none, none, none] = .nx [some (.d R0), none, none, none] := by
    simp only [denS_for_, den_cons, den_nil, den_call, den_v, vDen_v, List.getElem?_cons_zero, bind_ok', calling_data (s.nrK 663 (by simp)), callN_data (s.nrK 663 (by simp)), toDs_cons', toDs_nil, toD_d, List.map_cons, List.map_nil, q1, callD_ok, toD_n, fz_l, hnil, opt_some', toO_ok', forG_nil]
  have a2 : denS P (runC P cd (n + 8)) (.asgT [.s 2, .s 3] (.call 666 (.cons (.v 0) .nil))) [some (.d R0), none, none, none] = .nx [some (.d R0), none, some (.d (dParts pl ss)), some (.d (dIs plan))] := by
    rw [denS_asgT]
    simp only [den_call, den_cons, den_nil, den_v, vDen_v, List.getElem?_cons_zero, bind_ok', calling_data (s.nrK 666 (by simp)), callN_data (s.nrK 666 (by simp)), toDs_cons', toDs_nil, toD_d, List.map_cons, List.map_nil, q2, callD_ok, toO_ok']
    rfl
  have a3 : denS P (runC P cd (n + 8)) (.ret (.tup (.cons (.call 660 (.cons (.v 2) .nil)) (.cons (.v 3) .nil)))) [some (.d R0), none, some (.d (dParts pl ss)), some (.d (dIs plan))] = .rt (.d (.tup [dT pl ss, dIs plan])) [some (.d R0), none, some (.d (dParts pl ss)), some (.d (dIs plan))] := by
    refine ret_d ?_
    simp only [den_tup, den_call, den_cons, den_nil, den_v, vDen_v, List.getElem?_cons_succ, List.getElem?_cons_zero, bind_ok', calling_data (s.nrK 660 (by simp)), callN_data (s.nrK 660 (by simp)), toDs_cons', toDs_nil, toD_d, List.map_cons, List.map_nil, q3, callD_ok, toD_n, fz, two_le, if_true]
  exact (run_rt s.c670 ⟨rfl, rfl⟩ ((seq_nx a1).trans ((seq_nx a2).trans (seq_rt a3)))).trans rfl
end
end Hr
end Fl
set_option Elab.async false
set_option linter.all false
set_option maxRecDepth 100000
set_option maxHeartbeats 0
/-! k83, part f: lines written. -/
namespace Fl
namespace Hr
open PySem PySem.Spec PyProof.Rows L2
theorem three_P (x : Str) : sPlace ++ (" " ++ (x ++ Str.empty)) = rowP x := by
  refine str_eq ?_
  unfold rowP
  rw [cps_app, cps_app, cps_app, cps_app, c_place, c_sp]
  simp [Str.empty]
theorem five (k pre x y : Str) (hp : pre.cps.toList = k.cps.toList ++ [32]) : k ++ (" " ++ (x ++ (" " ++ (y ++ Str.empty)))) = ((pre ++ x) ++ " ") ++ y := by
  refine str_eq ?_
  simp only [cps_app, hp, c_sp]
  simp [Str.empty]
section
variable {P : PI} {cd : Nat → Option Code} (s : ShK P cd)
include s
theorem fv_str (x : Str) (h : x.length ≤ SL) : fvF (.str x) = some (.d (.str x)) := if_pos h
theorem rowby_ok (n : Nat) (p : Str × Str) {i : Int} (hi : isW i) (h1 : isNm p.1) (h2 : isNm p.2) : runC P cd (n + 1) 667 [] [.d (dP p), .d (.int i)] = .ok (.d (.str (rowS p i))) [.d .non, .d .non] := by
  have hS : (100 : Nat) ≤ SL := by decide
  have l1 := h1.len
  have l2 := h2.len
  have hx0 : ixs (dP p) (.int 0) = some (.str p.1) := ixs_t0 _ _
  have hx1 : ixs (dP p) (.int 1) = some (.str p.2) := ixs_t1 _ _ _
  have f1 := fv_str s p.1 (by omega)
  have f2 := fv_str s p.2 (by omega)
  have fs : fvF k83.K_STREET = some (.d (.str sStreet)) := fv_str s sStreet (by have := l_word (x := sStreet) (.inr (.inl rfl)); omega)
  have fw : fvF k83.K_WAY = some (.d (.str sWay)) := fv_str s sWay (by have := l_word (x := sWay) (.inr (.inr rfl)); omega)
  have len3 : ∀ (pre x y : Str), pre.length ≤ 7 → x.length ≤ 8 → y.length ≤ 8 → (((pre ++ x) ++ " ") ++ y).length ≤ SL := fun pre x y a b c => by
    rw [len_app, len_app, len_app, l_sp]
    omega
  have ss : ∀ a b c d e : Str, strsR [.d (.str a), .d (.str b), .d (.str c), .d (.str d), .d (.str e)] = some (a ++ (b ++ (c ++ (d ++ (e ++ Str.empty))))) := fun _ _ _ _ _ => rfl
  have e0 : cmps .Eq (.int i) k83.K_BOTH = some (decide (i = 0)) := by
    have : eqD (.int i) k83.K_BOTH = some (decide (i = 0)) := emb_int.eqD (by omega) i 0
    rw [cmps_eq, this]
  have e1 : cmps .Eq (.int i) K_AHEAD = some (decide (i = 1)) := by
    have : eqD (.int i) K_AHEAD = some (decide (i = 1)) := emb_int.eqD (by omega) i 1
    rw [cmps_eq, this]
  have c1 : (den P (runC P cd n) (.cmp .Eq (.v 1) (.k k83.K_BOTH))).t [some (.d (dP p)), some (.d (.int i))] = .ok (decide (i = 0)) [some (.d (dP p)), some (.d (.int i))] := by
    simp only [den_cmp, vDen_t, den_v, den_k, vDen_v, List.getElem?_cons_succ, List.getElem?_cons_zero, bind_ok', view_d, obs, oms, e0, opt_some', truth_bl]
  have c2 : (den P (runC P cd n) (.cmp .Eq (.v 1) (.k K_AHEAD))).t [some (.d (dP p)), some (.d (.int i))] = .ok (decide (i = 1)) [some (.d (dP p)), some (.d (.int i))] := by
    simp only [den_cmp, vDen_t, den_v, den_k, vDen_v, List.getElem?_cons_succ, List.getElem?_cons_zero, bind_ok', view_d, obs, oms, e1, opt_some', truth_bl]
  unfold rowS
  by_cases h0 : i = 0
  · rw [decide_eq_true h0] at c1
    rw [if_pos h0, ← five sStreet "street " p.1 p.2 c_street]
    have hl : (sStreet ++ (" " ++ (p.1 ++ (" " ++ (p.2 ++ Str.empty))))).length ≤ SL := by
      rw [five sStreet "street " p.1 p.2 c_street]
      exact len3 _ _ _ (by rw [l_street]; omega) l1 l2
    refine (run_rt s.c667 ⟨rfl, rfl⟩ (seq_rt ((ite_t c1).trans (seq_rt (ret_d (ρ1 := [some (.d (dP p)), some (.d (.int i))]) ?_))))).trans rfl
    simp only [den_fstr, den_cons, den_nil, den_fv, op1_v, den_ix, op2_v, vDen_v, den_v, den_k, List.getElem?_cons_succ, List.getElem?_cons_zero, bind_ok', view_d, obs, oms, fs, f1, f2, hx0, hx1, opt_some', noEx_ok, ss, hl, if_true]
  · rw [decide_eq_false h0] at c1
    rw [if_neg h0]
    by_cases h1 : i = 1
    · rw [decide_eq_true h1] at c2
      rw [if_pos h1, ← five sWay "way " p.1 p.2 c_way]
      have hl : (sWay ++ (" " ++ (p.1 ++ (" " ++ (p.2 ++ Str.empty))))).length ≤ SL := by
        rw [five sWay "way " p.1 p.2 c_way]
        exact len3 _ _ _ (by rw [l_way]; omega) l1 l2
      refine (run_rt s.c667 ⟨rfl, rfl⟩ ((seq_nx (ite_f c1)).trans (seq_rt (ret_d (ρ1 := [some (.d (dP p)), some (.d (.int i))]) ((vite_t c2).trans ?_))))).trans rfl
      simp only [den_fstr, den_cons, den_nil, den_fv, op1_v, den_ix, op2_v, vDen_v, den_v, den_k, List.getElem?_cons_succ, List.getElem?_cons_zero, bind_ok', view_d, obs, oms, fw, f1, f2, hx0, hx1, opt_some', noEx_ok, ss, hl, if_true]
    · rw [decide_eq_false h1] at c2
      rw [if_neg h1, ← five sWay "way " p.2 p.1 c_way]
      have hl : (sWay ++ (" " ++ (p.2 ++ (" " ++ (p.1 ++ Str.empty))))).length ≤ SL := by
        rw [five sWay "way " p.2 p.1 c_way]
        exact len3 _ _ _ (by rw [l_way]; omega) l2 l1
      refine (run_rt s.c667 ⟨rfl, rfl⟩ ((seq_nx (ite_f c1)).trans (seq_rt (ret_d (ρ1 := [some (.d (dP p)), some (.d (.int i))]) ((vite_f c2).trans ?_))))).trans rfl
      simp only [den_fstr, den_cons, den_nil, den_fv, op1_v, den_ix, op2_v, vDen_v, den_v, den_k, List.getElem?_cons_succ, List.getElem?_cons_zero, bind_ok', view_d, obs, oms, fw, f1, f2, hx0, hx1, opt_some', noEx_ok, ss, hl, if_true]
theorem att_t (n : Nat) (i : Nat) (f g : Nat) (ρ : Env) (pl : List Str) (ss : List (Str × Str)) (v : D) (hρ : ρ[i]? = some (some (.d (dT pl ss)))) (hl : [(2, 30), (4, 31), (5, 32)].lookup f = some g) (nb : ∀ j, P.byRef g j = false) (e : runC P cd n g [] [.d (dT pl ss)] = .ok (.d v) [.d .non]) : (den P (runC P cd n) (.att (.v i) f)).v ρ = .ok (.d v) ρ := by
  rw [den_att]
  simp only [vDen_v, den_v, hρ, bind_ok', view_d]
  rw [s.ci6]
  show (match [(2, 30), (4, 31), (5, 32)].lookup f with
    | some g => noEx (calling P (runC P cd n) g [] [.d (dT pl ss)] ρ)
    | none => _) = _
  rw [hl]
  show noEx (calling P (runC P cd n) g [] [.d (dT pl ss)] ρ) = _
  rw [calling_data nb]
  simp only [toDs_cons', toDs_nil, toD_d, bind_ok', List.map_cons, List.map_nil, e, callD_ok, noEx_ok]
theorem zipD_map {α β : Type} (e : α → D) (e' : β → D) : ∀ (xs : List α) (ys : List β), zipD (xs.map e) (ys.map e') = (xs.zip ys).map fun q => .tup [e q.1, e' q.2]
  | [], _ => rfl
  | _ :: _, [] => rfl
  | x :: xs, y :: ys => by
    show .tup [e x, e' y] :: zipD (xs.map e) (ys.map e') = _
    rw [zipD_map e e' xs ys]
    rfl
theorem rows_by_ok (n : Nat) {pl : List Str} {ss : List (Str × Str)} {plan : List Int} (t : TownOk pl ss) (hp : PlanOk ss.length plan) : runC P cd (n + 2) 668 [] [.d (dT pl ss), .d (dIs plan)] = .ok (.d (dSs (rowsOf pl ss plan))) [.d .non, .d .non] := by
  have hS : (2000 : Nat) ≤ SL := by decide
  have l8 := t.eight
  have l14 := t.str.len
  have zl : (ss.zip plan).length ≤ 14 := by rw [List.length_zip]; omega
  have fp : fvF k83.K_PLACE = some (.d (.str sPlace)) := fv_str s sPlace (by have := l_word (x := sPlace) (.inl rfl); omega)
  have ap := att_places s.toShT n pl ss
  have as_ := att_streets s.toShT n pl ss
  have hc1 : compG P (runC P cd (n + 1)) [3] [3] false .nil (.fstr (.cons (.fv (.k k83.K_PLACE)) (.cons (.k (.str " ")) (.cons (.fv (.v 3)) .nil)))) (pl.map D.str) [some (.d (dT pl ss)), some (.d (dIs plan)), none, none, none, none] = .ok (.n (.l ((pl.map rowP).map D.str))) [some (.d (dT pl ss)), some (.d (dIs plan)), none, none, none, none] := by
    unfold compG
    rw [compF_pure (fun d => match d with | .str x => .str (rowP x) | d => d) (fun _ => true) (by rfl) (by rw [List.length_map]; omega)]
    · rw [List.filter_eq_self.mpr (fun _ _ => rfl), List.map_map, List.map_map]
      rfl
    · intro y hy
      obtain ⟨x, hx, rfl⟩ := List.mem_map.mp hy
      have lx := (t.nm x hx).len
      have fx := fv_str s x (by omega)
      have ss3 : strsR [.d (.str sPlace), .d (.str " "), .d (.str x)] = some (rowP x) := by
        show some (sPlace ++ (" " ++ (x ++ Str.empty))) = _
        rw [three_P]
      have hl : (rowP x).length ≤ SL := by unfold rowP; rw [len_app, l_place]; omega
      refine ⟨[some (.d (dT pl ss)), some (.d (dIs plan)), none, some (.d (.str x)), none, none], rfl, rfl, fun _ => ?_, rfl⟩
      simp only [den_fstr, den_cons, den_nil, den_fv, op1_v, vDen_v, den_v, den_k, List.getElem?_cons_succ, List.getElem?_cons_zero, bind_ok', view_d, obs, fp, fx, opt_some', noEx_ok, ss3, hl, if_true, toD_d]
  have a1 : denS P (runC P cd (n + 1)) (.asg 2 (.comp (.fstr (.cons (.fv (.k k83.K_PLACE)) (.cons (.k (.str " ")) (.cons (.fv (.v 3)) .nil)))) [3] false .seq (.cons (.att (.v 0) 2) .nil) (.nil) [3])) [some (.d (dT pl ss)), some (.d (dIs plan)), none, none, none, none] = .nx [some (.d (dT pl ss)), some (.d (dIs plan)), some (.m true (.l ((pl.map rowP).map D.str))), none, none, none] := by
    refine asg_ok (r := .n (.l ((pl.map rowP).map D.str))) (v := .m true (.l ((pl.map rowP).map D.str))) (ρ1 := [some (.d (dT pl ss)), some (.d (dIs plan)), none, none, none, none]) ?_ rfl rfl
    have e1 := att_t s (n + 1) 0 2 30 [some (.d (dT pl ss)), some (.d (dIs plan)), none, none, none, none] pl ss (dSs pl) rfl rfl (s.nrT 30 (by simp)) ap
    have hseq : iter .seq [dSs pl] = some (pl.map D.str) := rfl
    rw [den_comp]
    simp only [vDen_v, den_cons, den_nil, e1, bind_ok', toDs_cons', toDs_nil, toD_d, hseq, opt_some', hc1]
  have hc2 : compG P (runC P cd (n + 1)) [4, 5] [4, 5] true .nil (.call 667 (.cons (.v 4) (.cons (.v 5) .nil))) (zipD (ss.map dP) (plan.map D.int)) [some (.d (dT pl ss)), some (.d (dIs plan)), some (.m true (.l ((pl.map rowP).map D.str))), none, none, none] = .ok (.n (.l (((ss.zip plan).map fun q => rowS q.1 q.2).map D.str))) [some (.d (dT pl ss)), some (.d (dIs plan)), some (.m true (.l ((pl.map rowP).map D.str))), none, none, none] := by
    rw [zipD_map s]
    unfold compG
    rw [compF_pure (fun d => match d with | .tup [.tup [.str a, .str b], .int i] => .str (rowS (a, b) i) | d => d) (fun _ => true) (by rfl) (by rw [List.length_map]; omega)]
    · have e : ((ss.zip plan).map fun q => D.tup [dP q.1, .int q.2]).map (fun d => match d with | .tup [.tup [.str a, .str b], .int i] => D.str (rowS (a, b) i) | d => d) = ((ss.zip plan).map fun q => rowS q.1 q.2).map D.str := by
        rw [List.map_map, List.map_map]
        rfl
      rw [List.filter_eq_self.mpr (fun _ _ => rfl), e]
    · intro y hy
      obtain ⟨⟨p, i⟩, hq, rfl⟩ := List.mem_map.mp hy
      obtain ⟨m1, m2, _⟩ := t.str.mem p (List.of_mem_zip hq).1
      have q := rowby_ok s n p (hp.way i (List.of_mem_zip hq).2) (t.nm _ m1) (t.nm _ m2)
      refine ⟨[some (.d (dT pl ss)), some (.d (dIs plan)), some (.m true (.l ((pl.map rowP).map D.str))), none, some (.d (dP p)), some (.d (.int i))], rfl, rfl, fun _ => ?_, rfl⟩
      simp only [den_call, den_cons, den_nil, den_v, vDen_v, List.getElem?_cons_succ, List.getElem?_cons_zero, bind_ok', calling_data (s.nrK 667 (by simp)), callN_data (s.nrK 667 (by simp)), toDs_cons', toDs_nil, toD_d, List.map_cons, List.map_nil, q, callD_ok]
  have a2 : denS P (runC P cd (n + 1)) (.ret (.blt .tuple (.cons (.bin .Add (.v 2) (.comp (.call 667 (.cons (.v 4) (.cons (.v 5) .nil))) [4, 5] true .zip (.cons (.att (.v 0) 4) (.cons (.v 1) .nil)) (.nil) [4, 5])) .nil))) [some (.d (dT pl ss)), some (.d (dIs plan)), some (.m true (.l ((pl.map rowP).map D.str))), none, none, none] = .rt (.d (dSs (rowsOf pl ss plan))) [some (.d (dT pl ss)), some (.d (dIs plan)), some (.m true (.l ((pl.map rowP).map D.str))), none, none, none] := by
    refine ret_d ?_
    have e1 := att_t s (n + 1) 0 4 31 [some (.d (dT pl ss)), some (.d (dIs plan)), some (.m true (.l ((pl.map rowP).map D.str))), none, none, none] pl ss (dPs ss) rfl rfl (s.nrT 31 (by simp)) as_
    have hzip : iter .zip [dPs ss, dIs plan] = some (zipD (ss.map dP) (plan.map D.int)) := rfl
    have hadd : bins .Add (.lst ((pl.map rowP).map D.str)) (.lst (((ss.zip plan).map fun q => rowS q.1 q.2).map D.str)) = some (.n (.l ((rowsOf pl ss plan).map D.str))) := by
      rw [bins_addL, if_pos (by rw [List.length_map, List.length_map, List.length_map, List.length_map]; omega), ← List.map_append]
      rfl
    have htup : blt .tuple [.lst ((rowsOf pl ss plan).map D.str)] = some (.d (dSs (rowsOf pl ss plan))) := rfl
    rw [den_blt]
    simp only [opL_v, den_cons, den_nil, den_bin, op2_v, den_comp, vDen_v, den_v, List.getElem?_cons_succ, List.getElem?_cons_zero, bind_ok', e1, toDs_cons', toDs_nil, toD_d, hzip, opt_some', hc2, view_sl, viewX_m, fz_l, view_n, obs, hadd, views_cons, views_nil, htup]
  exact (run_rt s.c668 ⟨rfl, rfl⟩ ((seq_nx a1).trans (seq_rt a2))).trans rfl
theorem town_rows_ok (n : Nat) {pl : List Str} {ss : List (Str × Str)} {plan : List Int} (t : TownOk pl ss) (hp : PlanOk ss.length plan) : runC P cd (n + 9) 669 [] [.d (dT pl ss), .d (dIs plan)] = .ok (.d (dSs (rowsOf pl ss plan))) [.d .non, .d .non] := by
  have q1 := cplan_ok s.pl n (ps := pl) hp
  have q2 := rows_by_ok s (n + 6) t hp
  have a1 : denS P (runC P cd (n + 8)) (.exp (.call 128 (.cons (.v 0) (.cons (.v 1) .nil)))) [some (.d (dT pl ss)), some (.d (dIs plan))] = .nx [some (.d (dT pl ss)), some (.d (dIs plan))] := by
    refine exp_ok (r := .d .non) ?_
    simp only [den_call, den_cons, den_nil, den_v, vDen_v, List.getElem?_cons_succ, List.getElem?_cons_zero, bind_ok', calling_data (s.pl.nrP 128 (by simp)), callN_data (s.pl.nrP 128 (by simp)), toDs_cons', toDs_nil, toD_d, List.map_cons, List.map_nil, q1, callD_ok]
  refine (run_rt s.c669 ⟨rfl, rfl⟩ ((seq_nx a1).trans (seq_rt (ret_d (v := dSs (rowsOf pl ss plan)) (ρ1 := [some (.d (dT pl ss)), some (.d (dIs plan))]) ?_)))).trans rfl
  simp only [den_call, den_cons, den_nil, den_v, vDen_v, List.getElem?_cons_succ, List.getElem?_cons_zero, bind_ok', calling_data (s.nrK 668 (by simp)), callN_data (s.nrK 668 (by simp)), toDs_cons', toDs_nil, toD_d, List.map_cons, List.map_nil, q2, callD_ok]
end
end Hr
end Fl
set_option Elab.async false
set_option linter.all false
set_option maxRecDepth 100000
set_option maxHeartbeats 0
/-! k83, part g: the law's own text; the law. -/
namespace Fl
namespace Hr
open PySem PySem.Spec PyProof.Rows L2
theorem parAll_cons (i : Nat) (is : List Nat) (r : RV) (rs : List RV) (ρ : Env) : parAll (i :: is) (r :: rs) ρ = (svOf r).bind fun v => (setS i v ρ).bind fun ρ1 => parAll is rs ρ1 := (rfl)
theorem parAll_nil (ρ : Env) : parAll [] [] ρ = some ρ := (rfl)
/-! ### unlike plans have unlike texts -/
theorem street_ne_way (x y u v : Str) : ¬ (("street " ++ x) ++ " ") ++ y = (("way " ++ u) ++ " ") ++ v := fun h => by
  have := congrArg (fun z => z.cps.toList) h
  simp only [cps_app, c_street, c_way] at this
  have h1 : sStreet.cps.toList = [115, 116, 114, 101, 101, 116] := by decide +kernel
  have h2 : sWay.cps.toList = [119, 97, 121] := by decide +kernel
  rw [h1, h2] at this
  simp at this
theorem rowS_inj {p : Str × Str} (h : sl p.1 p.2) (h1 : isNm p.1) (h2 : isNm p.2) {i j : Int} (hi : isW i) (hj : isW j) (e : rowS p i = rowS p j) : i = j := by
  have way : ¬ (("way " ++ p.1) ++ " ") ++ p.2 = (("way " ++ p.2) ++ " ") ++ p.1 := fun z => by
    have := congrArg (fun z => z.cps.toList) z
    simp only [cps_app, c_way, c_sp, List.append_assoc] at this
    have := List.append_cancel_left this
    have := List.append_cancel_left this
    obtain ⟨e1, _⟩ := first_eq (c := 32) (wd_free h1.wd) (wd_free h2.wd) this
    exact sl_ne h (str_eq e1)
  have s1 := street_ne_way p.1 p.2 p.1 p.2
  have s2 := street_ne_way p.1 p.2 p.2 p.1
  unfold rowS at e
  rcases hi with rfl | rfl | rfl <;> rcases hj with rfl | rfl | rfl
  · rfl
  · simp at e; exact absurd e.symm s1
  · simp at e; exact absurd e way
  · simp at e; exact absurd e s1
  · rfl
  · simp at e; exact absurd e s2
  · simp at e; exact absurd e.symm way
  · simp at e; exact absurd e.symm s2
  · rfl
theorem rows_inj {pl : List Str} {ss : List (Str × Str)} (t : TownOk pl ss) {p q : List Int} (hp : PlanOk ss.length p) (hq : PlanOk ss.length q) : rowsOf pl ss p = rowsOf pl ss q ↔ p = q := by
  constructor
  · intro h
    unfold rowsOf at h
    have h := List.append_cancel_left h
    have lp := hp.len
    have lq := hq.len
    apply List.ext_getElem (by rw [lp, lq])
    intro k k1 k2
    have ks : k < ss.length := by omega
    have e : (((ss.zip p).map fun q => rowS q.1 q.2)[k]?) = ((ss.zip q).map fun q => rowS q.1 q.2)[k]? := by rw [h]
    rw [List.getElem?_map, List.getElem?_map, List.getElem?_eq_getElem (by rw [List.length_zip]; omega), List.getElem?_eq_getElem (by rw [List.length_zip]; omega), List.getElem_zip, List.getElem_zip] at e
    have e : rowS ss[k] p[k] = rowS ss[k] q[k] := Option.some.inj e
    obtain ⟨m1, m2, m3⟩ := t.str.mem ss[k] (List.getElem_mem ks)
    exact rowS_inj m3 (t.nm _ m1) (t.nm _ m2) (hp.way _ (List.getElem_mem k1)) (hq.way _ (List.getElem_mem k2)) e
  · rintro rfl; rfl
theorem rows_len (pl : List Str) (ss : List (Str × Str)) (p : List Int) : (rowsOf pl ss p).length = pl.length + min ss.length p.length := by
  unfold rowsOf
  rw [List.length_append, List.length_map, List.length_map, List.length_zip]
section
variable {P : PI} {cd : Nat → Option Code} (s : ShK P cd)
include s
abbrev sTx : S := .cons (.asgT [.s 5, .s 6] (.ix (.ix (.v 0) (.k (.int 1))) (.v 4))) (.cons (.exp (.mthM .append 2 (.cons (.ite (.cmp .Eq (.ix (.v 1) (.v 4)) (.k (.int 0))) (.bin .Add (.bin .Add (.bin .Add (.k (.str "street ")) (.v 5)) (.k (.str " "))) (.v 6)) (.ite (.cmp .Eq (.ix (.v 1) (.v 4)) (.k (.int 1))) (.bin .Add (.bin .Add (.bin .Add (.k (.str "way ")) (.v 5)) (.k (.str " "))) (.v 6)) (.bin .Add (.bin .Add (.bin .Add (.k (.str "way ")) (.v 6)) (.k (.str " "))) (.v 5)))) .nil))) .nil)
abbrev eX (pl : List Str) (ss : List (Str × Str)) (plan : List Int) (rows : List Str) (x4 x5 x6 : Option SV) : Env := [some (.d (dParts pl ss)), some (.d (dIs plan)), some (.m true (.l (rows.map .str))), none, x4, x5, x6]
theorem add3 (n : Nat) (pre : Str) (i j : Nat) (x y : Str) (ρ : Env) (hi : ρ[i]? = some (some (.d (.str x)))) (hj : ρ[j]? = some (some (.d (.str y)))) (lp : pre.length ≤ 7) (lx : x.length ≤ 8) (ly : y.length ≤ 8) : (den P (runC P cd n) (.bin .Add (.bin .Add (.bin .Add (.k (.str pre)) (.v i)) (.k (.str " "))) (.v j))).v ρ = .ok (.d (.str (((pre ++ x) ++ " ") ++ y))) ρ := by
  have hS : (100 : Nat) ≤ SL := by decide
  have b1 : bins .Add (.str pre) (.str x) = some (.d (.str (pre ++ x))) := by rw [bins_addS, if_pos (by omega)]
  have b2 : bins .Add (.str (pre ++ x)) (.str " ") = some (.d (.str ((pre ++ x) ++ " "))) := by rw [bins_addS, if_pos (by rw [len_app, l_sp]; omega)]
  have b3 : bins .Add (.str ((pre ++ x) ++ " ")) (.str y) = some (.d (.str (((pre ++ x) ++ " ") ++ y))) := by rw [bins_addS, if_pos (by rw [len_app, len_app, l_sp]; omega)]
  simp only [den_bin, op2_v, den_k, den_v, vDen_v, hi, hj, bind_ok', view_d, obs, b1, b2, b3, opt_some']
theorem tx_step (n : Nat) {pl : List Str} {ss : List (Str × Str)} {plan : List Int} (t : TownOk pl ss) (hp : PlanOk ss.length plan) (rows : List Str) (hr : rows.length ≤ 100) (k : Nat) (hk : k < ss.length) (x5 x6 : Option SV) (h5 : Fr x5) (h6 : Fr x6) :
    ∃ y5 y6, Fr y5 ∧ Fr y6 ∧ denS P (runC P cd n) sTx (eX pl ss plan rows (some (.d (.int k))) x5 x6) = .nx (eX pl ss plan (rows ++ [rowS ss[k] (plan[k]'(by rw [hp.len]; exact hk))]) (some (.d (.int k))) y5 y6) := by
  have hS : (1000 : Nat) ≤ SL := by decide
  have hkp : k < plan.length := by rw [hp.len]; exact hk
  obtain ⟨m1, m2, m3⟩ := t.str.mem ss[k] (List.getElem_mem hk)
  have l1 := (t.nm _ m1).len
  have l2 := (t.nm _ m2).len
  have hs : ixs (dPs ss) (.int k) = some (dP ss[k]) := by
    obtain ⟨x, _, e1, e2⟩ := atI_map dP ss k (by omega) (by omega)
    have e1 : ss[k]? = some x := e1
    rw [List.getElem?_eq_getElem hk] at e1
    cases e1
    exact e2
  have hpl : ixs (dIs plan) (.int k) = some (.int plan[k]) := by
    obtain ⟨x, _, e1, e2⟩ := atI_map D.int plan k (by omega) (by omega)
    have e1 : plan[k]? = some x := e1
    rw [List.getElem?_eq_getElem hkp] at e1
    cases e1
    exact e2
  generalize ss[k] = p at *
  generalize plan[k] = i at *
  refine ⟨some (.d (.str p.1)), some (.d (.str p.2)), fr_d _, fr_d _, ?_⟩
  have a1 : denS P (runC P cd n) (.asgT [.s 5, .s 6] (.ix (.ix (.v 0) (.k (.int 1))) (.v 4))) (eX pl ss plan rows (some (.d (.int k))) x5 x6) = .nx (eX pl ss plan rows (some (.d (.int k))) (some (.d (.str p.1))) (some (.d (.str p.2)))) := by
    have e1 : (den P (runC P cd n) (.ix (.ix (.v 0) (.k (.int 1))) (.v 4))).v (eX pl ss plan rows (some (.d (.int k))) x5 x6) = .ok (.d (dP p)) (eX pl ss plan rows (some (.d (.int k))) x5 x6) := by
      simp only [den_ix, op2_v, den_k, den_v, vDen_v, List.getElem?_cons_succ, List.getElem?_cons_zero, bind_ok', view_d, obs, ixs_t1, oms, hs, opt_some']
    rw [denS_asgT, e1, toO_ok']
    show (stT [.inl 5, .inl 6] [.str p.1, .str p.2] (eX pl ss plan rows (some (.d (.int k))) x5 x6)).toO (fun _ ρ2 => .nx ρ2) = _
    have e2 : setS 5 (.d (.str p.1)) (eX pl ss plan rows (some (.d (.int k))) x5 x6) = some (eX pl ss plan rows (some (.d (.int k))) (some (.d (.str p.1))) x6) := by
      simp only [setS_eq, List.getElem?_cons_succ, List.getElem?_cons_zero, setX_fr _ _ h5, List.set_cons_succ, List.set_cons_zero]
    have e3 : setS 6 (.d (.str p.2)) (eX pl ss plan rows (some (.d (.int k))) (some (.d (.str p.1))) x6) = some (eX pl ss plan rows (some (.d (.int k))) (some (.d (.str p.1))) (some (.d (.str p.2)))) := by
      simp only [setS_eq, List.getElem?_cons_succ, List.getElem?_cons_zero, setX_fr _ _ h6, List.set_cons_succ, List.set_cons_zero]
    unfold stT
    rw [e2]
    dsimp only
    unfold stT
    rw [e3]
    rfl
  have e0 : cmps .Eq (.int i) (.int 0) = some (decide (i = 0)) := by rw [cmps_eq, emb_int.eqD (by omega)]
  have e1 : cmps .Eq (.int i) (.int 1) = some (decide (i = 1)) := by rw [cmps_eq, emb_int.eqD (by omega)]
  have c0 : (den P (runC P cd n) (.cmp .Eq (.ix (.v 1) (.v 4)) (.k (.int 0)))).t (eX pl ss plan rows (some (.d (.int k))) (some (.d (.str p.1))) (some (.d (.str p.2)))) = .ok (decide (i = 0)) (eX pl ss plan rows (some (.d (.int k))) (some (.d (.str p.1))) (some (.d (.str p.2)))) := by
    simp only [den_cmp, vDen_t, den_ix, op2_v, den_k, den_v, vDen_v, List.getElem?_cons_succ, List.getElem?_cons_zero, bind_ok', view_d, obs, hpl, oms, opt_some', e0, truth_bl]
  have c1 : (den P (runC P cd n) (.cmp .Eq (.ix (.v 1) (.v 4)) (.k (.int 1)))).t (eX pl ss plan rows (some (.d (.int k))) (some (.d (.str p.1))) (some (.d (.str p.2)))) = .ok (decide (i = 1)) (eX pl ss plan rows (some (.d (.int k))) (some (.d (.str p.1))) (some (.d (.str p.2)))) := by
    simp only [den_cmp, vDen_t, den_ix, op2_v, den_k, den_v, vDen_v, List.getElem?_cons_succ, List.getElem?_cons_zero, bind_ok', view_d, obs, hpl, oms, opt_some', e1, truth_bl]
  have ev : (den P (runC P cd n) (.ite (.cmp .Eq (.ix (.v 1) (.v 4)) (.k (.int 0))) (.bin .Add (.bin .Add (.bin .Add (.k (.str "street ")) (.v 5)) (.k (.str " "))) (.v 6)) (.ite (.cmp .Eq (.ix (.v 1) (.v 4)) (.k (.int 1))) (.bin .Add (.bin .Add (.bin .Add (.k (.str "way ")) (.v 5)) (.k (.str " "))) (.v 6)) (.bin .Add (.bin .Add (.bin .Add (.k (.str "way ")) (.v 6)) (.k (.str " "))) (.v 5))))).v (eX pl ss plan rows (some (.d (.int k))) (some (.d (.str p.1))) (some (.d (.str p.2)))) = .ok (.d (.str (rowS p i))) (eX pl ss plan rows (some (.d (.int k))) (some (.d (.str p.1))) (some (.d (.str p.2)))) := by
    unfold rowS
    by_cases h0 : i = 0
    · rw [decide_eq_true h0] at c0
      rw [vite_t c0, if_pos h0]
      exact add3 s n _ 5 6 p.1 p.2 _ rfl rfl (by rw [l_street]; omega) l1 l2
    · rw [decide_eq_false h0] at c0
      rw [vite_f c0, if_neg h0]
      by_cases h1 : i = 1
      · rw [decide_eq_true h1] at c1
        rw [vite_t c1, if_pos h1]
        exact add3 s n _ 5 6 p.1 p.2 _ rfl rfl (by rw [l_way]; omega) l1 l2
      · rw [decide_eq_false h1] at c1
        rw [vite_f c1, if_neg h1]
        exact add3 s n _ 6 5 p.2 p.1 _ rfl rfl (by rw [l_way]; omega) l2 l1
  have a2 : denS P (runC P cd n) (.exp (.mthM .append 2 (.cons (.ite (.cmp .Eq (.ix (.v 1) (.v 4)) (.k (.int 0))) (.bin .Add (.bin .Add (.bin .Add (.k (.str "street ")) (.v 5)) (.k (.str " "))) (.v 6)) (.ite (.cmp .Eq (.ix (.v 1) (.v 4)) (.k (.int 1))) (.bin .Add (.bin .Add (.bin .Add (.k (.str "way ")) (.v 5)) (.k (.str " "))) (.v 6)) (.bin .Add (.bin .Add (.bin .Add (.k (.str "way ")) (.v 6)) (.k (.str " "))) (.v 5)))) .nil))) (eX pl ss plan rows (some (.d (.int k))) (some (.d (.str p.1))) (some (.d (.str p.2)))) = .nx (eX pl ss plan (rows ++ [rowS p i]) (some (.d (.int k))) (some (.d (.str p.1))) (some (.d (.str p.2)))) := by
    refine exp_ok (r := .d .non) ?_
    have hap : mthM .append (.l (rows.map D.str)) [.str (rowS p i)] = some (.d .non, .l ((rows ++ [rowS p i]).map D.str)) := by
      rw [mthM_append, if_pos (by rw [List.length_map]; omega), List.map_append]
      rfl
    rw [den_mthM, vDen_v]
    show ((den P (runC P cd n) (.cons _ .nil)).l (eX pl ss plan rows (some (.d (.int k))) (some (.d (.str p.1))) (some (.d (.str p.2))))).bind _ = _
    simp only [den_cons, den_nil, ev, bind_ok', toDs_cons', toDs_nil, toD_d, List.getElem?_cons_succ, List.getElem?_cons_zero, hap, List.set_cons_succ, List.set_cons_zero]
  rw [seq_nx a1, seq_nx a2]
  rfl
theorem tx_loop (n : Nat) {pl : List Str} {ss : List (Str × Str)} {plan : List Int} (t : TownOk pl ss) (hp : PlanOk ss.length plan) : ∀ (m k : Nat) (x4 x5 x6 : Option SV), k + m = ss.length → Fr x4 → Fr x5 → Fr x6 →
    ∃ y4 y5 y6, forG P (runC P cd n) [4] false sTx (rngD k m) (eX pl ss plan (pl.map rowP ++ ((ss.zip plan).take k).map fun q => rowS q.1 q.2) x4 x5 x6) = .nx (eX pl ss plan (rowsOf pl ss plan) y4 y5 y6)
  | 0, k, x4, x5, x6, hk, _, _, _ => by
    refine ⟨x4, x5, x6, ?_⟩
    have : (ss.zip plan).take k = ss.zip plan := List.take_of_length_le (by rw [List.length_zip, hp.len]; omega)
    rw [this]
    rfl
  | m + 1, k, x4, x5, x6, hk, h4, h5, h6 => by
    have hks : k < ss.length := by omega
    have l8 := t.eight
    have l14 := t.str.len
    obtain ⟨y5, y6, f5, f6, e1⟩ := tx_step s n t hp (pl.map rowP ++ ((ss.zip plan).take k).map fun q => rowS q.1 q.2) (by rw [List.length_append, List.length_map, List.length_map, List.length_take, List.length_zip]; omega) k hks x5 x6 h5 h6
    have hz : ((ss.zip plan).take (k + 1)) = (ss.zip plan).take k ++ [(ss[k], plan[k]'(by rw [hp.len]; exact hks))] := by
      have hkz : k < (ss.zip plan).length := by rw [List.length_zip, hp.len]; omega
      rw [List.take_succ, List.getElem?_eq_getElem hkz, List.getElem_zip]
      rfl
    have e3 : (pl.map rowP ++ ((ss.zip plan).take k).map fun q => rowS q.1 q.2) ++ [rowS ss[k] (plan[k]'(by rw [hp.len]; exact hks))] = pl.map rowP ++ ((ss.zip plan).take (k + 1)).map fun q => rowS q.1 q.2 := by
      rw [hz, List.map_append, List.append_assoc]
      rfl
    rw [e3] at e1
    obtain ⟨z4, z5, z6, e2⟩ := tx_loop n t hp m (k + 1) (some (.d (.int k))) y5 y6 (by omega) (fr_d _) f5 f6
    refine ⟨z4, z5, z6, ?_⟩
    show forRun [4] false _ (.int k :: rngD (k + 1) m) _ = _
    unfold forRun
    have eb : bindT [4] false (.int k) (eX pl ss plan (pl.map rowP ++ ((ss.zip plan).take k).map fun q => rowS q.1 q.2) x4 x5 x6) = some (eX pl ss plan (pl.map rowP ++ ((ss.zip plan).take k).map fun q => rowS q.1 q.2) (some (.d (.int k))) x5 x6) := by
      simp only [bindT_one, setAll_cons, setAll_nil, setS_eq, List.getElem?_cons_succ, List.getElem?_cons_zero, setX_fr _ _ h4, obs, List.set_cons_succ, List.set_cons_zero]
    rw [eb]
    dsimp only
    rw [e1]
    exact e2
theorem text_ok (n : Nat) {pl : List Str} {ss : List (Str × Str)} {plan : List Int} (t : TownOk pl ss) (hp : PlanOk ss.length plan) : runC P cd (n + 1) 671 [] [.d (dParts pl ss), .d (dIs plan)] = .ok (.d (dSs (rowsOf pl ss plan))) [.d .non, .d .non] := by
  have hS : (1000 : Nat) ≤ SL := by decide
  have l8 := t.eight
  have l14 := t.str.len
  have hc1 : compG P (runC P cd n) [3] [3] false .nil (.bin .Add (.k (.str "place ")) (.v 3)) (pl.map D.str) [some (.d (dParts pl ss)), some (.d (dIs plan)), none, none, none, none, none] = .ok (.n (.l ((pl.map rowP).map D.str))) [some (.d (dParts pl ss)), some (.d (dIs plan)), none, none, none, none, none] := by
    unfold compG
    rw [compF_pure (fun d => match d with | .str x => .str (rowP x) | d => d) (fun _ => true) (by rfl) (by rw [List.length_map]; omega)]
    · rw [List.filter_eq_self.mpr (fun _ _ => rfl), List.map_map, List.map_map]
      rfl
    · intro y hy
      obtain ⟨x, hx, rfl⟩ := List.mem_map.mp hy
      have lx := (t.nm x hx).len
      have b1 : bins .Add (.str "place ") (.str x) = some (.d (.str (rowP x))) := by rw [bins_addS, if_pos (by rw [l_place]; omega)]; rfl
      refine ⟨[some (.d (dParts pl ss)), some (.d (dIs plan)), none, some (.d (.str x)), none, none, none], rfl, rfl, fun _ => ?_, rfl⟩
      simp only [den_bin, op2_v, den_k, den_v, vDen_v, List.getElem?_cons_succ, List.getElem?_cons_zero, bind_ok', view_d, obs, b1, opt_some', toD_d]
  have a1 : denS P (runC P cd n) (.asg 2 (.comp (.bin .Add (.k (.str "place ")) (.v 3)) [3] false .seq (.cons (.ix (.v 0) (.k (.int 0))) .nil) (.nil) [3])) [some (.d (dParts pl ss)), some (.d (dIs plan)), none, none, none, none, none] = .nx (eX pl ss plan (pl.map rowP) none none none) := by
    refine asg_ok (r := .n (.l ((pl.map rowP).map D.str))) (v := .m true (.l ((pl.map rowP).map D.str))) (ρ1 := [some (.d (dParts pl ss)), some (.d (dIs plan)), none, none, none, none, none]) ?_ rfl rfl
    have hseq : iter .seq [dSs pl] = some (pl.map D.str) := rfl
    simp only [den_comp, vDen_v, den_cons, den_nil, den_ix, op2_v, den_k, den_v, List.getElem?_cons_zero, bind_ok', view_d, obs, ixs_t0, oms, opt_some', toDs_cons', toDs_nil, toD_d, hseq, hc1]
  obtain ⟨y4, y5, y6, e⟩ := tx_loop s n t hp ss.length 0 none none none (by omega) fr_none fr_none fr_none
  have e : forG P (runC P cd n) [4] false sTx (rngD 0 ss.length) (eX pl ss plan (pl.map rowP) none none none) = .nx (eX pl ss plan (rowsOf pl ss plan) y4 y5 y6) := by
    have h0 : (pl.map rowP ++ ((ss.zip plan).take 0).map fun q => rowS q.1 q.2) = pl.map rowP := by simp
    rw [h0] at e
    exact e
  have a2 : denS P (runC P cd n) (.for_ [4] false .range (.cons (.blt .len (.cons (.v 1) .nil)) .nil) sTx) (eX pl ss plan (pl.map rowP) none none none) = .nx (eX pl ss plan (rowsOf pl ss plan) y4 y5 y6) := by
    have hit := range_len s.toShB plan.length (by rw [hp.len]; omega)
    have hlen : blt .len [dIs plan] = some (.d (.int plan.length)) := by rw [blt_lenT, List.length_map]
    rw [denS_for_]
    simp only [den_cons, den_nil, den_blt, opL_v, den_v, vDen_v, List.getElem?_cons_succ, List.getElem?_cons_zero, bind_ok', views_cons, views_nil, view_d, obs, hlen, opt_some', toDs_cons', toDs_nil, toD_d, hit, toO_ok']
    rw [hp.len]
    exact e
  have a3 : denS P (runC P cd n) (.ret (.blt .tuple (.cons (.v 2) .nil))) (eX pl ss plan (rowsOf pl ss plan) y4 y5 y6) = .rt (.d (dSs (rowsOf pl ss plan))) (eX pl ss plan (rowsOf pl ss plan) y4 y5 y6) := by
    refine ret_d ?_
    have htup : blt .tuple [.lst ((rowsOf pl ss plan).map D.str)] = some (.d (dSs (rowsOf pl ss plan))) := rfl
    simp only [den_blt, opL_v, den_cons, den_nil, den_v, vDen_v, List.getElem?_cons_succ, List.getElem?_cons_zero, bind_ok', views_cons, views_nil, view_sl, viewX_m, fz_l, obs, htup, opt_some']
  exact (run_rt s.c671 ⟨rfl, rfl⟩ ((seq_nx a1).trans ((seq_nx a2).trans (seq_rt a3)))).trans rfl
end
end Hr
end Fl
set_option Elab.async false
set_option linter.all false
set_option maxRecDepth 100000
set_option maxHeartbeats 0
/-! k83, part h: the law. -/
namespace Fl
namespace Hr
open PySem PySem.Spec PyProof.Rows L2
abbrev b1S : S := .asg 2 (.call 203 (.cons (.v 0) (.cons (.k (.int 8)) (.cons (.k (.int 14)) .nil))))
abbrev b2S : S := .par [3, 4, 5] (.cons (.call 204 (.cons (.v 2) .nil)) (.cons (.call 219 (.cons (.v 0) (.cons (.v 2) .nil))) (.cons (.call 219 (.cons (.v 0) (.cons (.v 2) .nil))) .nil)))
abbrev b3S : S := .asg 6 (.call 671 (.cons (.v 2) (.cons (.v 4) .nil)))
abbrev b4S : S := .par [7, 8] (.cons (.call 670 (.cons (.v 6) .nil)) (.cons (.callK 670 0 1 (.nil) (.cons (.v 6) .nil) [0]) .nil))
abbrev b5S : S := .asg 9 (.tup (.cons (.call 669 (.cons (.v 3) (.cons (.v 4) .nil))) (.cons (.callK 669 0 2 (.nil) (.cons (.v 4) (.cons (.v 3) .nil)) [1, 0]) (.cons (.att (.ix (.v 7) (.k (.int 0))) 5) (.cons (.ix (.v 7) (.k (.int 1))) (.cons (.cmp .Eq (.ix (.v 8) (.k (.int 0))) (.v 3)) (.cons (.ix (.v 8) (.k (.int 1))) (.cons (.blt .len (.cons (.v 7) .nil)) (.cons (.call 669 (.cons (.ix (.v 7) (.k (.int 0))) (.cons (.ix (.v 7) (.k (.int 1))) .nil))) .nil)))))))))
abbrev b6S : S := .ite (.not (.call 200 (.cons (.v 9) (.cons (.tup (.cons (.v 6) (.cons (.v 6) (.cons (.v 2) (.cons (.v 4) (.cons (.k (.bl true)) (.cons (.v 4) (.cons (.k (.int 2)) (.cons (.v 6) .nil))))))))) .nil)))) (.cons (.ret (.k (.bl false))) .nil) (.nil)
abbrev b7S : S := .ite (.not (.call 200 (.cons (.cmp .Eq (.call 669 (.cons (.v 3) (.cons (.v 5) .nil))) (.v 6)) (.cons (.cmp .Eq (.v 5) (.v 4)) .nil)))) (.cons (.ret (.k (.bl false))) .nil) (.nil)
abbrev b8S : S := .ite (.and (.cmp .NotEq (.ix (.v 2) (.k (.int 1))) (.tup (.nil))) (.cmp .Eq (.call 669 (.cons (.call 204 (.cons (.call 208 (.cons (.v 2) (.cons (.tup (.cons (.k (.int 0)) .nil)) .nil))) .nil)) (.cons (.sl (.v 4) (.k (.int 1)) (.nil)) .nil))) (.v 6))) (.cons (.ret (.k (.bl false))) .nil) (.nil)
abbrev lapS : S := .cons b1S (.cons b2S (.cons b3S (.cons b4S (.cons b5S (.cons b6S (.cons b7S (.cons b8S .nil)))))))
theorem S672_eq : k83.S672 = .cons (.for_ [1] false .range (.cons (.k (.int 6)) .nil) lapS) (.cons (.ret (.k (.bl true))) .nil) := rfl
theorem town_sub {pl : List Str} {p : Str × Str} {ss : List (Str × Str)} (t : TownOk pl (p :: ss)) : TownOk pl ss := ⟨t.nm, t.asc, t.one, t.eight, fun q hq => t.str.mem q (List.mem_cons_of_mem _ hq), (List.pairwise_cons.mp t.str.asc).2, by have := t.str.len; rw [List.length_cons] at this; omega⟩
section
variable {P : PI} {cd : Nat → Option Code} (s : ShK P cd)
include s
theorem lap_ok (n : Nat) (b : Bowl) (x1 x2 x3 x4 x5 x6 x7 x8 x9 : Option SV) (h2 : Fr x2) (h3 : Fr x3) (h4 : Fr x4) (h5 : Fr x5) (h6 : Fr x6) (h7 : Fr x7) (h8 : Fr x8) (h9 : Fr x9) :
    ∃ (b' : Bowl) (d2 d3 d4 d5 d6 d7 d8 d9 : D), denS P (runC P cd (n + 9)) lapS [some (.m false (Bw b)), x1, x2, x3, x4, x5, x6, x7, x8, x9] = .nx [some (.m false (Bw b')), x1, some (.d d2), some (.d d3), some (.d d4), some (.d d5), some (.d d6), some (.d d7), some (.d d8), some (.d d9)] := by
  have hS : (2000 : Nat) ≤ SL := by decide
  have hb3 := callN_ref (P := P) (call := runC P cd (n + 9)) (caps := []) rfl (s.b0 203 (by simp)) (s.bs 203 (by simp))
  have hb9 := callN_ref (P := P) (call := runC P cd (n + 9)) (caps := []) rfl s.b219 s.bs219
  obtain ⟨b1, pl, ss, t, _, hss, e1⟩ := town_ok s.toShB (n + 5) b (most := 8) (m2 := 14) (by omega) (by omega) (by omega) (by omega)
  have l8 := t.eight
  have l14 := t.str.len
  have a1 : denS P (runC P cd (n + 9)) b1S [some (.m false (Bw b)), x1, x2, x3, x4, x5, x6, x7, x8, x9] = .nx [some (.m false (Bw b1)), x1, some (.d (dParts pl ss)), x3, x4, x5, x6, x7, x8, x9] := by
    refine asg_ok (r := .d (dParts pl ss)) (v := .d (dParts pl ss)) (ρ1 := [some (.m false (Bw b1)), x1, x2, x3, x4, x5, x6, x7, x8, x9]) ?_ rfl ?_
    · simp only [den_call, den_cons, den_nil, den_k, den_v, vDen_v, List.getElem?_cons_zero, bind_ok', hb3, toDs_cons', toDs_nil, toD_d, List.map_cons, List.map_nil, e1, backB_ok, List.set_cons_zero]
    · simp only [setS_eq, List.getElem?_cons_succ, List.getElem?_cons_zero, setX_fr _ _ h2, List.set_cons_succ, List.set_cons_zero]
  have q204 := made_ok s.toShM (n + 1) t
  obtain ⟨b2, plan, hp, e2⟩ := plan_ok s.toShM (n + 6) b1 pl ss (by omega)
  obtain ⟨b3, other, ho, e3⟩ := plan_ok s.toShM (n + 6) b2 pl ss (by omega)
  have a2 : denS P (runC P cd (n + 9)) b2S [some (.m false (Bw b1)), x1, some (.d (dParts pl ss)), x3, x4, x5, x6, x7, x8, x9] = .nx [some (.m false (Bw b3)), x1, some (.d (dParts pl ss)), some (.m true (.i 6 [(3, dParts pl ss)])), some (.d (dIs plan)), some (.d (dIs other)), x6, x7, x8, x9] := by
    rw [denS_par]
    simp only [den_cons, den_nil, den_call, den_v, vDen_v, List.getElem?_cons_succ, List.getElem?_cons_zero, bind_ok', calling_data (s.nrB 204 (by simp)), callN_data (s.nrB 204 (by simp)), toDs_cons', toDs_nil, toD_d, List.map_cons, List.map_nil, q204, callD_ok, hb9, e2, e3, backB_ok, List.set_cons_zero, toO_ok', parAll_cons, parAll_nil, svOf_n, svOf_d, obs, setS_eq, setX_fr _ _ h3, setX_fr _ _ h4, setX_fr _ _ h5, List.set_cons_succ, O_of_some]
  have q671 := text_ok s (n + 8) t hp
  have a3 : denS P (runC P cd (n + 9)) b3S [some (.m false (Bw b3)), x1, some (.d (dParts pl ss)), some (.m true (.i 6 [(3, dParts pl ss)])), some (.d (dIs plan)), some (.d (dIs other)), x6, x7, x8, x9] = .nx [some (.m false (Bw b3)), x1, some (.d (dParts pl ss)), some (.m true (.i 6 [(3, dParts pl ss)])), some (.d (dIs plan)), some (.d (dIs other)), some (.d (dSs (rowsOf pl ss plan))), x7, x8, x9] := by
    refine asg_ok (r := .d (dSs (rowsOf pl ss plan))) (v := .d (dSs (rowsOf pl ss plan))) (ρ1 := [some (.m false (Bw b3)), x1, some (.d (dParts pl ss)), some (.m true (.i 6 [(3, dParts pl ss)])), some (.d (dIs plan)), some (.d (dIs other)), x6, x7, x8, x9]) ?_ rfl ?_
    · simp only [den_call, den_cons, den_nil, den_v, vDen_v, List.getElem?_cons_succ, List.getElem?_cons_zero, bind_ok', calling_data (s.nrK 671 (by simp)), callN_data (s.nrK 671 (by simp)), toDs_cons', toDs_nil, toD_d, List.map_cons, List.map_nil, q671, callD_ok]
    · simp only [setS_eq, List.getElem?_cons_succ, List.getElem?_cons_zero, setX_fr _ _ h6, List.set_cons_succ, List.set_cons_zero]
  have q670 := read_ok s n t hp
  have pk0 : ∀ (a : RV), pick ([] ++ [a]) [0] = some [a] := fun _ => rfl
  have a4 : denS P (runC P cd (n + 9)) b4S [some (.m false (Bw b3)), x1, some (.d (dParts pl ss)), some (.m true (.i 6 [(3, dParts pl ss)])), some (.d (dIs plan)), some (.d (dIs other)), some (.d (dSs (rowsOf pl ss plan))), x7, x8, x9] = .nx [some (.m false (Bw b3)), x1, some (.d (dParts pl ss)), some (.m true (.i 6 [(3, dParts pl ss)])), some (.d (dIs plan)), some (.d (dIs other)), some (.d (dSs (rowsOf pl ss plan))), some (.d (.tup [dT pl ss, dIs plan])), some (.d (.tup [dT pl ss, dIs plan])), x9] := by
    rw [denS_par]
    simp only [den_cons, den_nil, den_call, den_callK, den_v, vDen_v, List.getElem?_cons_succ, List.getElem?_cons_zero, bind_ok', calling_data (s.nrK 670 (by simp)), callN_data (s.nrK 670 (by simp)), toDs_cons', toDs_nil, toD_d, List.map_cons, List.map_nil, q670, callD_ok, List.length_nil, List.length_cons, Nat.zero_add, and_self, if_true, pk0, toO_ok', parAll_cons, parAll_nil, svOf_d, obs, setS_eq, setX_fr _ _ h7, setX_fr _ _ h8, List.set_cons_succ, List.set_cons_zero, O_of_some]
  have q669 := town_rows_ok s n t hp
  have q669o := town_rows_ok s n t ho
  have pk1 : ∀ (a b : RV), pick ([] ++ [a, b]) [1, 0] = some [b, a] := fun _ _ => rfl
  have hR : ∀ p, rowsOf pl ss p = rowsOf pl ss p := fun _ => rfl
  have a5 : denS P (runC P cd (n + 9)) b5S [some (.m false (Bw b3)), x1, some (.d (dParts pl ss)), some (.m true (.i 6 [(3, dParts pl ss)])), some (.d (dIs plan)), some (.d (dIs other)), some (.d (dSs (rowsOf pl ss plan))), some (.d (.tup [dT pl ss, dIs plan])), some (.d (.tup [dT pl ss, dIs plan])), x9] =
      .nx [some (.m false (Bw b3)), x1, some (.d (dParts pl ss)), some (.d (dT pl ss)), some (.d (dIs plan)), some (.d (dIs other)), some (.d (dSs (rowsOf pl ss plan))), some (.d (.tup [dT pl ss, dIs plan])), some (.d (.tup [dT pl ss, dIs plan])), some (.d (.tup [dSs (rowsOf pl ss plan), dSs (rowsOf pl ss plan), dParts pl ss, dIs plan, .bl true, dIs plan, .int 2, dSs (rowsOf pl ss plan)]))] := by
    generalize rowsOf pl ss plan = R0 at *
    let ρ : Env := [some (.m false (Bw b3)), x1, some (.d (dParts pl ss)), some (.d (dT pl ss)), some (.d (dIs plan)), some (.d (dIs other)), some (.d (dSs R0)), some (.d (.tup [dT pl ss, dIs plan])), some (.d (.tup [dT pl ss, dIs plan])), x9]
    have hfz : fz (.i 6 [(3, dParts pl ss)]) = dT pl ss := rfl
    have f1 : (den P (runC P cd (n + 9)) (.call 669 (.cons (.v 3) (.cons (.v 4) .nil)))).v [some (.m false (Bw b3)), x1, some (.d (dParts pl ss)), some (.m true (.i 6 [(3, dParts pl ss)])), some (.d (dIs plan)), some (.d (dIs other)), some (.d (dSs R0)), some (.d (.tup [dT pl ss, dIs plan])), some (.d (.tup [dT pl ss, dIs plan])), x9] = .ok (.d (dSs R0)) [some (.m false (Bw b3)), x1, some (.d (dParts pl ss)), some (.d (dT pl ss)), some (.d (dIs plan)), some (.d (dIs other)), some (.d (dSs R0)), some (.d (.tup [dT pl ss, dIs plan])), some (.d (.tup [dT pl ss, dIs plan])), x9] := by
      simp only [den_call, den_cons, den_nil, den_v, vDen_v, List.getElem?_cons_succ, List.getElem?_cons_zero, bind_ok', calling_data (s.nrK 669 (by simp)), callN_data (s.nrK 669 (by simp)), toDs_cons', toDs_nil, toD_d, toD_sl, toX_m, hfz, List.set_cons_succ, List.set_cons_zero, List.map_cons, List.map_nil, q669, callD_ok]
    have f2 : (den P (runC P cd (n + 9)) (.callK 669 0 2 (.nil) (.cons (.v 4) (.cons (.v 3) .nil)) [1, 0])).v ρ = .ok (.d (dSs R0)) ρ := by
      simp only [ρ, den_callK, den_cons, den_nil, den_v, vDen_v, List.getElem?_cons_succ, List.getElem?_cons_zero, bind_ok', List.length_nil, List.length_cons, Nat.zero_add, Nat.reduceAdd, and_self, if_true, pk1, calling_data (s.nrK 669 (by simp)), callN_data (s.nrK 669 (by simp)), toDs_cons', toDs_nil, toD_d, List.map_cons, List.map_nil, q669, callD_ok]
    have q32 := att_parts s.toShT (n + 8) pl ss
    have f3 : (den P (runC P cd (n + 9)) (.att (.ix (.v 7) (.k (.int 0))) 5)).v ρ = .ok (.d (dParts pl ss)) ρ := by
      have g1 : (den P (runC P cd (n + 9)) (.ix (.v 7) (.k (.int 0)))).v ρ = .ok (.d (dT pl ss)) ρ := by
        simp only [ρ, den_ix, op2_v, den_k, den_v, vDen_v, List.getElem?_cons_succ, List.getElem?_cons_zero, bind_ok', view_d, obs, ixs_t0, oms, opt_some']
      rw [den_att, vDen_v]
      show ((den P (runC P cd (n + 9)) (.ix (.v 7) (.k (.int 0)))).v ρ).bind _ = _
      rw [g1, bind_ok']
      show (match (P.ci 6).props.lookup 5 with
        | some g => noEx (calling P (runC P cd (n + 9)) g [] [.d (dT pl ss)] ρ)
        | none => if (P.ci 6).flds.contains 5 then R.opt (([(3, dParts pl ss)].lookup 5).map .d) ρ else .bad) = _
      rw [s.ci6]
      show noEx (calling P (runC P cd (n + 9)) 32 [] [.d (dT pl ss)] ρ) = _
      rw [calling_data (s.nrT 32 (by simp))]
      simp only [toDs_cons', toDs_nil, toD_d, bind_ok', List.map_cons, List.map_nil, q32, callD_ok, noEx_ok]
    have f4 : (den P (runC P cd (n + 9)) (.ix (.v 7) (.k (.int 1)))).v ρ = .ok (.d (dIs plan)) ρ := by
      simp only [ρ, den_ix, op2_v, den_k, den_v, vDen_v, List.getElem?_cons_succ, List.getElem?_cons_zero, bind_ok', view_d, obs, ixs_t1, oms, opt_some']
    have q33 := eq_town s.toShT (n + 7) pl pl ss ss
    have f5 : (den P (runC P cd (n + 9)) (.cmp .Eq (.ix (.v 8) (.k (.int 0))) (.v 3))).v ρ = .ok (.d (.bl true)) ρ := by
      have g1 : (den P (runC P cd (n + 9)) (.ix (.v 8) (.k (.int 0)))).v ρ = .ok (.d (dT pl ss)) ρ := by
        simp only [ρ, den_ix, op2_v, den_k, den_v, vDen_v, List.getElem?_cons_succ, List.getElem?_cons_zero, bind_ok', view_d, obs, ixs_t0, oms, opt_some']
      have g2 : (den P (runC P cd (n + 9)) (.v 3)).v ρ = .ok (.d (dT pl ss)) ρ := rfl
      rw [den_cmp, vDen_v]
      show ((den P (runC P cd (n + 9)) (.ix (.v 8) (.k (.int 0)))).v ρ).bind _ = _
      rw [g1, bind_ok', g2, bind_ok']
      show (match (P.ci 6).eq, some (dT pl ss) with
        | some f, some (D.ins C' _) => if C' = 6 then (calling P (runC P cd (n + 9)) f [] [.d (dT pl ss), .d (dT pl ss)] ρ).bind (fun r ρ3 => match asBl r with
          | some k => R.ok (RV.d (D.bl k)) ρ3
          | none => R.bad) else R.bad
        | _, _ => R.bad) = _
      rw [s.ci6]
      show (if 6 = 6 then (calling P (runC P cd (n + 9)) 33 [] [.d (dT pl ss), .d (dT pl ss)] ρ).bind _ else R.bad) = _
      rw [if_pos rfl, calling_data (s.nrT 33 (by simp))]
      simp only [toDs_cons', toDs_nil, toD_d, bind_ok', List.map_cons, List.map_nil, q33, callD_ok, and_self, decide_true, asBl_bl]
    have f6 : (den P (runC P cd (n + 9)) (.ix (.v 8) (.k (.int 1)))).v ρ = .ok (.d (dIs plan)) ρ := by
      simp only [ρ, den_ix, op2_v, den_k, den_v, vDen_v, List.getElem?_cons_succ, List.getElem?_cons_zero, bind_ok', view_d, obs, ixs_t1, oms, opt_some']
    have f7 : (den P (runC P cd (n + 9)) (.blt .len (.cons (.v 7) .nil))).v ρ = .ok (.d (.int 2)) ρ := rfl
    have f8 : (den P (runC P cd (n + 9)) (.call 669 (.cons (.ix (.v 7) (.k (.int 0))) (.cons (.ix (.v 7) (.k (.int 1))) .nil)))).v ρ = .ok (.d (dSs R0)) ρ := by
      simp only [ρ, den_call, den_cons, den_nil, den_ix, op2_v, den_k, den_v, vDen_v, List.getElem?_cons_succ, List.getElem?_cons_zero, bind_ok', view_d, obs, ixs_t0, ixs_t1, oms, opt_some', calling_data (s.nrK 669 (by simp)), callN_data (s.nrK 669 (by simp)), toDs_cons', toDs_nil, toD_d, List.map_cons, List.map_nil, q669, callD_ok]
    refine asg_ok (r := .d (.tup [dSs R0, dSs R0, dParts pl ss, dIs plan, .bl true, dIs plan, .int 2, dSs R0])) (v := .d (.tup [dSs R0, dSs R0, dParts pl ss, dIs plan, .bl true, dIs plan, .int 2, dSs R0])) (ρ1 := ρ) ?_ rfl ?_
    · have h8l : [dSs R0, dSs R0, dParts pl ss, dIs plan, .bl true, dIs plan, .int 2, dSs R0].length ≤ SL := le_SL8
      rw [den_tup, vDen_v]
      simp only [den_cons, den_nil]
      rw [f1]
      simp only [bind_ok']
      rw [f2]
      simp only [bind_ok']
      rw [f3]
      simp only [bind_ok']
      rw [f4]
      simp only [bind_ok']
      rw [f5]
      simp only [bind_ok']
      rw [f6]
      simp only [bind_ok']
      rw [f7]
      simp only [bind_ok']
      rw [f8]
      simp only [bind_ok', toDs_cons', toDs_nil, toD_d, h8l, if_true]
    · simp only [ρ, setS_eq, List.getElem?_cons_succ, List.getElem?_cons_zero, setX_fr _ _ h9, List.set_cons_succ, List.set_cons_zero]
  -- all told right
  have plS : ∀ xs : List Str, plainDs (xs.map D.str) = true := fun xs => by induction xs with
    | nil => rfl
    | cons x xs ih => exact ih
  have plI : ∀ xs : List Int, plainDs (xs.map D.int) = true := fun xs => by induction xs with
    | nil => rfl
    | cons x xs ih => exact ih
  have plP : ∀ xs : List (Str × Str), plainDs (xs.map dP) = true := fun xs => by induction xs with
    | nil => rfl
    | cons x xs ih => show (plainD (dP x) && plainDs (xs.map dP)) = true; rw [ih]; rfl
  have dpS : ∀ xs : List Str, dpDs (xs.map D.str) = 0 := fun xs => by induction xs with
    | nil => rfl
    | cons x xs ih => show max 0 (dpDs (xs.map D.str)) = 0; rw [ih]; rfl
  have dpI : ∀ xs : List Int, dpDs (xs.map D.int) = 0 := fun xs => by induction xs with
    | nil => rfl
    | cons x xs ih => show max 0 (dpDs (xs.map D.int)) = 0; rw [ih]; rfl
  have dpP : ∀ xs : List (Str × Str), dpDs (xs.map dP) ≤ 1 := fun xs => by induction xs with
    | nil => exact Nat.zero_le _
    | cons x xs ih => show max (max 0 (max 0 0) + 1) (dpDs (xs.map dP)) ≤ 1; omega
  have rl : (rowsOf pl ss plan).length ≤ 100 := by rw [rows_len, hp.len]; omega
  have pR : plainD (dSs (rowsOf pl ss plan)) = true := by
    show (decide (((rowsOf pl ss plan).map D.str).length ≤ 1000) && plainDs _) = true
    rw [plS, decide_eq_true (by rw [List.length_map]; omega)]
    rfl
  have pSs : plainD (dSs pl) = true := by
    show (decide ((pl.map D.str).length ≤ 1000) && plainDs _) = true
    rw [plS, decide_eq_true (by rw [List.length_map]; omega)]
    rfl
  have pPs : plainD (dPs ss) = true := by
    show (decide ((ss.map dP).length ≤ 1000) && plainDs _) = true
    rw [plP, decide_eq_true (by rw [List.length_map]; omega)]
    rfl
  have pIs : plainD (dIs plan) = true := by
    show (decide ((plan.map D.int).length ≤ 1000) && plainDs _) = true
    rw [plI, decide_eq_true (by rw [List.length_map, hp.len]; omega)]
    rfl
  have pPa : plainD (dParts pl ss) = true := by
    show (decide (2 ≤ 1000) && (plainD (dSs pl) && (plainD (dPs ss) && true))) = true
    rw [pSs, pPs]
    rfl
  have pD : plainD (.tup [dSs (rowsOf pl ss plan), dSs (rowsOf pl ss plan), dParts pl ss, dIs plan, .bl true, dIs plan, .int 2, dSs (rowsOf pl ss plan)]) = true := by
    show (decide (8 ≤ 1000) && (plainD (dSs (rowsOf pl ss plan)) && (plainD (dSs (rowsOf pl ss plan)) && (plainD (dParts pl ss) && (plainD (dIs plan) && (true && (plainD (dIs plan) && (true && (plainD (dSs (rowsOf pl ss plan)) && true))))))))) = true
    rw [pR, pPa, pIs]
    rfl
  have dR : dpD (dSs (rowsOf pl ss plan)) = 1 := by show dpDs _ + 1 = 1; rw [dpS]
  have dIp : dpD (dIs plan) = 1 := by show dpDs _ + 1 = 1; rw [dpI]
  have dPa : dpD (dParts pl ss) ≤ 3 := by
    have h1 : dpD (dSs pl) = 1 := by show dpDs _ + 1 = 1; rw [dpS]
    have h2 : dpD (dPs ss) ≤ 2 := by show dpDs _ + 1 ≤ 2; have := dpP ss; omega
    show max (dpD (dSs pl)) (max (dpD (dPs ss)) 0) + 1 ≤ 3
    omega
  have dD : dpD (.tup [dSs (rowsOf pl ss plan), dSs (rowsOf pl ss plan), dParts pl ss, dIs plan, .bl true, dIs plan, .int 2, dSs (rowsOf pl ss plan)]) ≤ 4 := by
    show max (dpD (dSs (rowsOf pl ss plan))) (max (dpD (dSs (rowsOf pl ss plan))) (max (dpD (dParts pl ss)) (max (dpD (dIs plan)) (max 0 (max (dpD (dIs plan)) (max 0 (max (dpD (dSs (rowsOf pl ss plan))) 0))))))) + 1 ≤ 4
    omega
  have q200 := same_ok (P := P) s.c200 (s.nrM 200 (by simp)) 4 (n + 4) _ pD dD
  have hinj := rows_inj t hp ho
  have hinj' : rowsOf pl ss other = rowsOf pl ss plan ↔ other = plan := by rw [eq_comm, hinj, eq_comm]
  have a6 : denS P (runC P cd (n + 9)) b6S [some (.m false (Bw b3)), x1, some (.d (dParts pl ss)), some (.d (dT pl ss)), some (.d (dIs plan)), some (.d (dIs other)), some (.d (dSs (rowsOf pl ss plan))), some (.d (.tup [dT pl ss, dIs plan])), some (.d (.tup [dT pl ss, dIs plan])), some (.d (.tup [dSs (rowsOf pl ss plan), dSs (rowsOf pl ss plan), dParts pl ss, dIs plan, .bl true, dIs plan, .int 2, dSs (rowsOf pl ss plan)]))] = .nx [some (.m false (Bw b3)), x1, some (.d (dParts pl ss)), some (.d (dT pl ss)), some (.d (dIs plan)), some (.d (dIs other)), some (.d (dSs (rowsOf pl ss plan))), some (.d (.tup [dT pl ss, dIs plan])), some (.d (.tup [dT pl ss, dIs plan])), some (.d (.tup [dSs (rowsOf pl ss plan), dSs (rowsOf pl ss plan), dParts pl ss, dIs plan, .bl true, dIs plan, .int 2, dSs (rowsOf pl ss plan)]))] := by
    generalize dSs (rowsOf pl ss plan) = R0 at q200 ⊢
    refine (ite_f (not_t (k := true) ?_)).trans rfl
    have h8l : [R0, R0, dParts pl ss, dIs plan, .bl true, dIs plan, .int 2, R0].length ≤ SL := le_SL8
    rw [den_call, vDen_t]
    simp only [den_cons, den_nil, den_tup, den_k, den_v, vDen_v, List.getElem?_cons_succ, List.getElem?_cons_zero, bind_ok', toDs_cons', toDs_nil, toD_d, h8l, if_true, calling_data (s.nrM 200 (by simp)), callN_data (s.nrM 200 (by simp)), List.map_cons, List.map_nil, q200, callD_ok, view_d, obs, truth_bl, opt_some']
  have a7 : denS P (runC P cd (n + 9)) b7S [some (.m false (Bw b3)), x1, some (.d (dParts pl ss)), some (.d (dT pl ss)), some (.d (dIs plan)), some (.d (dIs other)), some (.d (dSs (rowsOf pl ss plan))), some (.d (.tup [dT pl ss, dIs plan])), some (.d (.tup [dT pl ss, dIs plan])), some (.d (.tup [dSs (rowsOf pl ss plan), dSs (rowsOf pl ss plan), dParts pl ss, dIs plan, .bl true, dIs plan, .int 2, dSs (rowsOf pl ss plan)]))] = .nx [some (.m false (Bw b3)), x1, some (.d (dParts pl ss)), some (.d (dT pl ss)), some (.d (dIs plan)), some (.d (dIs other)), some (.d (dSs (rowsOf pl ss plan))), some (.d (.tup [dT pl ss, dIs plan])), some (.d (.tup [dT pl ss, dIs plan])), some (.d (.tup [dSs (rowsOf pl ss plan), dSs (rowsOf pl ss plan), dParts pl ss, dIs plan, .bl true, dIs plan, .int 2, dSs (rowsOf pl ss plan)]))] := by
    have g1 : cmps .Eq (dSs (rowsOf pl ss other)) (dSs (rowsOf pl ss plan)) = some (decide (other = plan)) := by
      have : eqD (dSs (rowsOf pl ss other)) (dSs (rowsOf pl ss plan)) = some (decide (rowsOf pl ss other = rowsOf pl ss plan)) := emb_Ss.eqD (by omega) _ _
      rw [cmps_eq, this]
      congr 1
      exact decide_eq_decide.mpr hinj'
    have g2 : cmps .Eq (dIs other) (dIs plan) = some (decide (other = plan)) := by
      have : eqD (dIs other) (dIs plan) = some (decide (other = plan)) := emb_Is.eqD (by omega) _ _
      rw [cmps_eq, this]
    have q2 := same_bl (P := P) s.c200 (n + 8) (decide (other = plan)) (decide (other = plan))
    rw [beq_self_eq_true] at q2
    generalize dSs (rowsOf pl ss plan) = R0 at g1 ⊢
    refine (ite_f (not_t (k := true) ?_)).trans rfl
    rw [den_call, vDen_t]
    simp only [den_cons, den_nil, den_cmp, den_call, den_v, vDen_v, List.getElem?_cons_succ, List.getElem?_cons_zero, bind_ok', toDs_cons', toDs_nil, toD_d, calling_data (s.nrK 669 (by simp)), callN_data (s.nrK 669 (by simp)), List.map_cons, List.map_nil, q669o, callD_ok, view_d, obs, oms, g1, g2, opt_some', calling_data (s.nrM 200 (by simp)), callN_data (s.nrM 200 (by simp)), q2, truth_bl]
  have a8 : denS P (runC P cd (n + 9)) b8S [some (.m false (Bw b3)), x1, some (.d (dParts pl ss)), some (.d (dT pl ss)), some (.d (dIs plan)), some (.d (dIs other)), some (.d (dSs (rowsOf pl ss plan))), some (.d (.tup [dT pl ss, dIs plan])), some (.d (.tup [dT pl ss, dIs plan])), some (.d (.tup [dSs (rowsOf pl ss plan), dSs (rowsOf pl ss plan), dParts pl ss, dIs plan, .bl true, dIs plan, .int 2, dSs (rowsOf pl ss plan)]))] = .nx [some (.m false (Bw b3)), x1, some (.d (dParts pl ss)), some (.d (dT pl ss)), some (.d (dIs plan)), some (.d (dIs other)), some (.d (dSs (rowsOf pl ss plan))), some (.d (.tup [dT pl ss, dIs plan])), some (.d (.tup [dT pl ss, dIs plan])), some (.d (.tup [dSs (rowsOf pl ss plan), dSs (rowsOf pl ss plan), dParts pl ss, dIs plan, .bl true, dIs plan, .int 2, dSs (rowsOf pl ss plan)]))] := by
    generalize hX9 : (D.tup [dSs (rowsOf pl ss plan), dSs (rowsOf pl ss plan), dParts pl ss, dIs plan, .bl true, dIs plan, .int 2, dSs (rowsOf pl ss plan)]) = X9
    cases ss with
    | nil =>
      have g0 : cmps .NotEq (dPs []) (.tup []) = some false := by
        have : eqD (dPs []) (.tup []) = some (decide (([] : List (Str × Str)) = [])) := emb_Ps.eqD (by omega) [] []
        rw [cmps_ne, this]
        simp
      refine (ite_f (and_f ?_)).trans rfl
      simp only [den_cmp, vDen_t, den_ix, op2_v, den_tup, den_nil, den_k, den_v, vDen_v, List.getElem?_cons_succ, List.getElem?_cons_zero, bind_ok', view_d, obs, ixs_t1, oms, opt_some', toDs_nil, List.length_nil, Nat.zero_le, if_true, g0, truth_bl]
    | cons p r =>
      have g0 : cmps .NotEq (dPs (p :: r)) (.tup []) = some true := by
        have : eqD (dPs (p :: r)) (.tup []) = some (decide ((p :: r) = [])) := emb_Ps.eqD (by omega) (p :: r) []
        rw [cmps_ne, this]
        rfl
      have tr := town_sub t
      have hlp := hp.len
      obtain ⟨i, pt, rfl⟩ : ∃ i pt, plan = i :: pt := by
        cases plan with
        | nil => simp at hlp
        | cons i pt => exact ⟨i, pt, rfl⟩
      have hpt : PlanOk r.length pt := ⟨by simpa using hlp, fun j hj => hp.way j (List.mem_cons_of_mem _ hj)⟩
      have q208 := closed_ok s.toShM (n + 8) pl p r (by rw [List.length_cons] at l14; omega)
      have q204' := made_ok s.toShM (n + 1) tr
      have q669' := town_rows_ok s n tr hpt
      have hfz : fz (.i 6 [(3, dParts pl r)]) = dT pl r := rfl
      have hsl : sls (dIs (i :: pt)) (some 1) none = some (.d (dIs pt)) := by
        show some (RV.d (.tup (cutL ((i :: pt).map D.int) (some 1) none))) = _
        have : cutL ((i :: pt).map D.int) (some 1) none = pt.map D.int := by
          unfold cutL
          have h1 : HT.sIx ((i :: pt).map D.int).length 0 (some 1) = 1 := by
            have := HT.sIx_nat ((i :: pt).map D.int).length 0 1
            rw [List.length_map, List.length_cons] at *
            exact this.trans (by omega)
          rw [h1, HT.sIx_none]
          show List.take _ (pt.map D.int) = _
          exact List.take_of_length_le (by rw [List.length_map, List.length_map, List.length_cons]; omega)
        rw [this]
      have g1 : cmps .Eq (dSs (rowsOf pl r pt)) (dSs (rowsOf pl (p :: r) (i :: pt))) = some false := by
        have : eqD (dSs (rowsOf pl r pt)) (dSs (rowsOf pl (p :: r) (i :: pt))) = some (decide (rowsOf pl r pt = rowsOf pl (p :: r) (i :: pt))) := emb_Ss.eqD (by omega) _ _
        have hne : ¬ rowsOf pl r pt = rowsOf pl (p :: r) (i :: pt) := fun z => by
          have := congrArg List.length z
          rw [rows_len, rows_len, hpt.len, hp.len, List.length_cons] at this
          omega
        rw [cmps_eq, this, decide_eq_false hne]
      generalize dSs (rowsOf pl (p :: r) (i :: pt)) = R0 at g1 ⊢
      generalize hρ : ([some (.m false (Bw b3)), x1, some (.d (dParts pl (p :: r))), some (.d (dT pl (p :: r))), some (.d (dIs (i :: pt))), some (.d (dIs other)), some (.d R0), some (.d (.tup [dT pl (p :: r), dIs (i :: pt)])), some (.d (.tup [dT pl (p :: r), dIs (i :: pt)])), some (.d X9)] : Env) = ρ
      have r2 : ρ[2]? = some (some (.d (dParts pl (p :: r)))) := by rw [← hρ]; rfl
      have r4 : ρ[4]? = some (some (.d (dIs (i :: pt)))) := by rw [← hρ]; rfl
      have r6 : ρ[6]? = some (some (.d R0)) := by rw [← hρ]; rfl
      refine (ite_f ((and_t (ρ1 := ρ) ?_).trans ?_)).trans rfl
      · simp only [den_cmp, vDen_t, den_ix, op2_v, den_tup, den_nil, den_k, den_v, vDen_v, r2, bind_ok', view_d, obs, ixs_t1, oms, opt_some', toDs_nil, List.length_nil, Nat.zero_le, if_true, g0, truth_bl]
      · simp only [den_cmp, vDen_t, den_call, den_cons, den_nil, den_tup, den_k, den_sl, isNil, partOf, den_v, vDen_v, r2, r4, r6, bind_ok', toDs_cons', toDs_nil, toD_d, List.length_cons, List.length_nil, Nat.zero_add, le_SL1, if_true, calling_data (s.nrM 208 (by simp)), callN_data (s.nrM 208 (by simp)), calling_data (s.nrB 204 (by simp)), callN_data (s.nrB 204 (by simp)), calling_data (s.nrK 669 (by simp)), callN_data (s.nrK 669 (by simp)), List.map_cons, List.map_nil, q208, q204', callD_ok, toD_n, hfz, view_d, obs, hsl, opt_some', q669', oms, g1, truth_bl]
  exact ⟨b3, _, _, _, _, _, _, _, _, (seq_nx a1).trans ((seq_nx a2).trans ((seq_nx a3).trans ((seq_nx a4).trans ((seq_nx a5).trans ((seq_nx a6).trans ((seq_nx a7).trans ((seq_nx a8).trans rfl)))))))⟩
end
end Hr
end Fl
set_option Elab.async false
set_option linter.all false
set_option maxRecDepth 100000
set_option maxHeartbeats 0
/-! k83, part i: the law, whole. -/
namespace Fl
namespace Hr
open PySem PySem.Spec PyProof.Rows L2
section
variable {P : PI} {cd : Nat → Option Code} (s : ShK P cd)
include s
theorem right_ok (n : Nat) (b : Bowl) : ∃ as, runC P cd (n + 10) 672 [] [.m false (Bw b)] = .ok (.d (.bl true)) as := by
  have hloop : ∃ ρ', forG P (runC P cd (n + 9)) [1] false lapS (rngD 0 6) [some (.m false (Bw b)), none, none, none, none, none, none, none, none, none] = .nx ρ' := by
    obtain ⟨ρ', e, _⟩ := forRun_inv (tg := [1]) (many := false) (b := denS P (runC P cd (n + 9)) lapS)
      (fun l ρ => (∀ d ∈ l, ∃ i, d = D.int i) ∧ ∃ (b : Bowl) (x1 x2 x3 x4 x5 x6 x7 x8 x9 : Option SV), (Fr x1 ∧ Fr x2 ∧ Fr x3 ∧ Fr x4 ∧ Fr x5 ∧ Fr x6 ∧ Fr x7 ∧ Fr x8 ∧ Fr x9) ∧ ρ = [some (.m false (Bw b)), x1, x2, x3, x4, x5, x6, x7, x8, x9]) (rngD 0 6) _
      ⟨fun d h => by obtain ⟨j, _, e⟩ := rngD_mem h; exact ⟨_, e⟩, b, none, none, none, none, none, none, none, none, none, ⟨fr_none, fr_none, fr_none, fr_none, fr_none, fr_none, fr_none, fr_none, fr_none⟩, rfl⟩ (by
      rintro x l ρ ⟨hl, b, x1, x2, x3, x4, x5, x6, x7, x8, x9, ⟨h1, h2, h3, h4, h5, h6, h7, h8, h9⟩, rfl⟩
      obtain ⟨i, rfl⟩ := hl x (List.mem_cons_self ..)
      obtain ⟨b', d2, d3, d4, d5, d6, d7, d8, d9, e⟩ := lap_ok s n b (some (.d (.int i))) x2 x3 x4 x5 x6 x7 x8 x9 h2 h3 h4 h5 h6 h7 h8 h9
      refine ⟨[some (.m false (Bw b)), some (.d (.int i)), x2, x3, x4, x5, x6, x7, x8, x9], _, ?_, .inl e, fun d h => hl d (List.mem_cons_of_mem _ h), b', _, _, _, _, _, _, _, _, _, ⟨fr_d _, fr_d _, fr_d _, fr_d _, fr_d _, fr_d _, fr_d _, fr_d _, fr_d _⟩, rfl⟩
      simp only [bindT_one, setAll_cons, setAll_nil, setS_eq, List.getElem?_cons_succ, List.getElem?_cons_zero, setX_fr _ _ h1, obs, List.set_cons_succ, List.set_cons_zero])
    exact ⟨ρ', e⟩
  obtain ⟨ρ', e⟩ := hloop
  have hit : iter .range [.int 6] = some (rngD 0 6) := range_len s.toShB 6 (by omega)
  have a1 : denS P (runC P cd (n + 9)) (.for_ [1] false .range (.cons (.k (.int 6)) .nil) lapS) [some (.m false (Bw b)), none, none, none, none, none, none, none, none, none] = .nx ρ' := by
    rw [denS_for_]
    simp only [den_cons, den_nil, den_k, vDen_v, bind_ok', toDs_cons', toDs_nil, toD_d, hit, opt_some', toO_ok']
    exact e
  have a2 : denS P (runC P cd (n + 9)) (.ret (.k (.bl true))) ρ' = .rt (.d (.bl true)) ρ' := rfl
  have h := run_rt s.c672 (n := n + 9) (caps := []) (args := [.m false (Bw b)]) (r := .d (.bl true)) (ρ := ρ') ⟨rfl, rfl⟩ (by
    rw [S672_eq]
    exact (seq_nx a1).trans (seq_rt a2))
  exact ⟨_, h⟩
theorem law_ok (n : Nat) (ns : List Int) (hns : ns.length ≤ 63) : ∃ as, runC P cd (n + 11) 673 [] [.d (.lst (ns.map .int))] = .ok (.d (.bl true)) as := by
  have hS : (2000 : Nat) ≤ SL := by decide
  have b0 := s.b672
  -- how many laps
  obtain ⟨k, hk, hk2⟩ : ∃ k : Nat, k ≤ 63 ∧ ∀ (m0 : Int), m0 = (if (3 : Int) < (ns.length : Int) then 3 else (ns.length : Int)) → (if m0 > 1 then m0 else (1 : Int)) = k := by
    by_cases h3 : (3 : Int) < (ns.length : Int)
    · exact ⟨3, by omega, fun m0 e => by rw [e, if_pos h3]; rfl⟩
    · by_cases h1 : (1 : Int) < (ns.length : Int)
      · exact ⟨ns.length, hns, fun m0 e => by rw [e, if_neg h3, if_pos h1]⟩
      · exact ⟨1, by omega, fun m0 e => by rw [e, if_neg h3, if_neg h1]; rfl⟩
  have hk2 := hk2 _ rfl
  have hit := range_len s.toShB k (by omega)
  have hc : compG P (runC P cd (n + 10)) [1] [1] false .nil (.call 672 (.cons (.call 197 (.cons (.v 0) (.cons (.v 1) .nil))) .nil)) (rngD 0 k) [some (.d (.lst (ns.map .int))), none] = .ok (.n (.l ((rngD 0 k).map fun _ => .bl true))) [some (.d (.lst (ns.map .int))), none] := by
    unfold compG
    rw [compF_pure (fun _ => .bl true) (fun _ => true) (by rfl) (by rw [rngD_len]; omega)]
    · rw [List.filter_eq_self.mpr (fun _ _ => rfl)]
    · intro y hy
      obtain ⟨lap, hl, rfl⟩ := rng_nat s.toShB hy
      obtain ⟨b, e1⟩ := bowl_ok s.toShB (n + 9) ns lap (by omega)
      obtain ⟨as, e2⟩ := right_ok s n b
      refine ⟨[some (.d (.lst (ns.map .int))), some (.d (.int lap))], rfl, rfl, fun _ => ?_, rfl⟩
      simp only [den_call, den_cons, den_nil, den_v, vDen_v, List.getElem?_cons_succ, List.getElem?_cons_zero, bind_ok', callN_data (s.nrB 197 (by simp)), toDs_cons', toDs_nil, toD_d, List.map_cons, List.map_nil, e1, callD_ok, callN_new b0, e2]
  have hb : blt .all [.lst ((rngD 0 k).map fun _ => .bl true)] = some (.d (.bl true)) := by
    show (blsOf _).map _ = _
    rw [blsOf_map (fun _ => true)]
    simp
  have hlen : blt .len [.lst (ns.map D.int)] = some (.d (.int ns.length)) := by rw [blt_lenL, List.length_map]
  have hmin : blt .min [.int ns.length, .int 3] = some (.d (.int (if (3 : Int) < ns.length then 3 else ns.length))) := rfl
  have hmax : ∀ m0 : Int, blt .max [.int 1, .int m0] = some (.d (.int (if m0 > 1 then m0 else 1))) := fun _ => rfl
  have key : (den P (runC P cd (n + 10)) (.blt .all (.cons (.comp (.call 672 (.cons (.call 197 (.cons (.v 0) (.cons (.v 1) .nil))) .nil)) [1] false .range (.cons (.blt .max (.cons (.k (.int 1)) (.cons (.blt .min (.cons (.blt .len (.cons (.v 0) .nil)) (.cons (.k (.int 3)) .nil))) .nil))) .nil) .nil [1]) .nil))).v [some (.d (.lst (ns.map .int))), none] = .ok (.d (.bl true)) [some (.d (.lst (ns.map .int))), none] := by
    simp only [den_blt, opL_v, den_cons, den_nil, den_comp, den_k, vDen_v, den_v, List.getElem?_cons_zero, bind_ok', views_cons, views_nil, view_d, obs, hlen, opt_some', hmin, hmax, hk2, toDs_cons', toDs_nil, toD_d, hit, hc, view_n, fz_l, hb]
  have a : denS P (runC P cd (n + 10)) k83.S673 [some (.d (.lst (ns.map .int))), none] = .rt (.d (.bl true)) [some (.d (.lst (ns.map .int))), none] := seq_rt (ret_d key)
  have h := run_rt s.c673 (n := n + 10) (caps := []) (args := [.d (.lst (ns.map .int))]) (r := .d (.bl true)) (ρ := [some (.d (.lst (ns.map .int))), none]) ⟨rfl, rfl⟩ a
  exact ⟨_, h⟩
end
end Hr
namespace k83
open Hr
theorem shT : ShT dat.pi dat.codes where
  c6 := c6
  c8 := c8
  c9 := c9
  c10 := c10
  c11 := c11
  c12 := c12
  c13 := c13
  c14 := c14
  c15 := ⟨_, _, c15, c63043, fun _ => rfl⟩
  c16 := c16
  c17 := ⟨_, _, c17, c69044, fun _ => rfl⟩
  nr := fun f hf j => by
    simp at hf
    rcases hf with rfl | rfl | rfl | rfl | rfl | rfl | rfl | rfl | rfl | rfl | rfl <;> rfl
  c29 := c29
  c30 := c30
  c31 := c31
  c32 := c32
  c33 := c33
  c34 := c34
  ci6 := by rfl
  nrT := fun f hf j => by
    simp at hf
    rcases hf with rfl | rfl | rfl | rfl | rfl <;> rfl
  nr29 := fun j => by rfl
theorem shPl : ShPl dat.pi dat.codes := { shT with
  c7 := c7
  c83 := ⟨_, _, c83, c56039, fun _ => rfl⟩
  c117 := c117
  c118 := c118
  c128 := c128
  nrP := fun f hf j => by
    simp at hf
    rcases hf with rfl | rfl | rfl | rfl | rfl <;> rfl
  }
theorem shK : ShK dat.pi dat.codes := { shT with
  c197 := c197
  c198 := c198
  c199 := c199
  c202 := c202
  c203 := c203
  c204 := c204
  b0 := fun f hf => by
    simp at hf
    rcases hf with rfl | rfl | rfl | rfl <;> rfl
  bs := fun f hf j => by
    simp at hf
    rcases hf with rfl | rfl | rfl | rfl <;> rfl
  nrB := fun f hf j => by
    simp at hf
    rcases hf with rfl | rfl <;> rfl
  c208 := c208
  c219 := c219
  c200 := c200
  nrM := fun f hf j => by
    simp at hf
    rcases hf with rfl | rfl <;> rfl
  b219 := by rfl
  bs219 := fun j => by rfl
  pl := shPl
  c660 := c660
  c661 := c661
  c662 := c662
  c663 := c663
  c664 := c664
  c665 := c665
  c666 := c666
  c667 := c667
  c668 := c668
  c669 := c669
  c670 := c670
  c671 := c671
  c672 := c672
  c673 := c673
  nrK := fun f hf j => by
    simp at hf
    rcases hf with rfl | rfl | rfl | rfl | rfl | rfl | rfl | rfl | rfl | rfl | rfl | rfl | rfl <;> rfl
  b672 := by rfl
  bs672 := fun j => by rfl
  }
end k83
end Fl
set_option Elab.async false
set_option linter.all false
namespace Fl.k83
theorem law_runs : ∀ ns : List Int, ns.length ≤ 63 → LawRuns dat.pi dat.codes 101 673 ns := fun ns h => Fl.Hr.law_ok shK 90 ns h
end Fl.k83
set_option Elab.async false
set_option linter.all false
set_option maxRecDepth 100000
set_option maxHeartbeats 0
open PySem PySem.W PySem.Calls PyProof.Rows Fl
theorem PySem.Challenge.cw_streetways_k83_whole_texts_of_towns_holds : PySem.Challenge.rw_streetways_k83_whole_texts_of_towns.Holds := by
  w_on; o_law
  refine HandSHeadRun.head_any (r := Fl.k83.Rw) (q := view Fl.k83.Rw.prog [67]) (H := Fl.k83.hk) (ob := Fl.k83.ob) (M := 20000) (loose := Fl.k83.loose) (d := HandSHeadRun.topDef Fl.k83.Rw.prog 67) (kwd := []) Fl.k83.ob_eq
    (by kernel_rfl) (fun s => by kernel_rfl) Fl.k83.run (by kernel_rfl) (by kernel_rfl) (by kernel_rfl) (by rfl) (by first | assumption | decide +kernel) (by decide +kernel) ⟨rfl, rfl, rfl, rfl, rfl, by decide +kernel⟩ ?hw ?hc
  case hw => w_witness2
  case hc => exact LD.walk (L := Fl.k83.dat) (l := PySem.Challenge.rw_streetways_k83_whole_texts_of_towns) (g := 673) (fu := 100) (c := Fl.k83.cp673) (x := "script") rfl rfl (by kernel_rfl) (LD.ok_of Fl.k83.okB) Fl.k83.kwOk (by kernel_rfl) (by kernel_rfl) (by kernel_rfl) (by kernel_rfl) (by kernel_rfl) (by decide +kernel) ⟨rfl, by decide, by decide⟩ Fl.k83.law_runs
