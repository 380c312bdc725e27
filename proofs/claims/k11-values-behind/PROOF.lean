import PyProof.Rows.All
import Wide.All
import OpenK.AllK
import Wide.FinOn
import HandS.ForMost
import HandS.Star
import HandS.Deep
import HandS.TupAny
import HandS.TupLe
import HandS.IsInst
import HandS.Conv
import HandS.Flow
import KE.SortData
import PyProof.ReprRoads
import PyProof.Rows.RegFStrParts
import KE.KeyNested
import HandS.TupMul
import HandS.List
import KE.KExcSuper
import HandS.ExcInit
import KE.KExcIs
import HandS.ExcField
import HandS.ExcIs
import HandS.Base
import HandS.Call
import HandS.Dict
import HandS.TupSets
import KE.KDictKeyed
import PyProof.Transfer
import KE.GoesMore
import KE.GoesEnum
import KE.GoesZip
import KE.KDictZip
import PyProof.ListNew
import HandS.Zip
import HandS.TryOnly
import HandS.HeadHook1
import HandS.HeadHook2
import HandS.Ends
import HandS.EndBits
import HandS.Defaults
import HandS.Head0
import HandS.Head1
import HandS.Head2
import HandS.HeadEnd
import HandS.HeadHook3
import HandS.Exc
import HandS.WordsExc
import PySem.Challenge.RW_typedbydegrees_k11_whole_values_behind_c
set_option Elab.async false
set_option linter.all false
set_option autoImplicit false
namespace EV
open PySem L2

abbrev D := PySem.PyData
/-- a slot of a def: unset, a value that is shared, a list that only this slot reaches -/
inductive Sl where
  | un | sh (d : D) | ow (l : List D)
def Sl.val : Sl → Option D
  | .un => none
  | .sh d => some d
  | .ow l => some (.list l)
def Sl.keep : Sl → Option D
  | .sh d => some d
  | _ => none
def Sl.share : Sl → Sl
  | .ow l => .sh (.list l)
  | s => s
def rd (b : Bool) (s : Sl) : Option D := cond b s.val s.keep

/-- what the module's names are: constants; isinstance by own classes; fields; own classes of errors -/
structure GI where
  g : Str → Option D
  i : Str → D → Option D
  a : Str → D → Option D
  m : Str → Bool
structure Cfg where
  N : List Str
  G : GI
  C : Str → List D → Option D

def items : D → Option (List D)
  | .list xs => some xs
  | .tuple xs => some xs
  | _ => none
def mapO {α β : Type} (f : α → Option β) : List α → Option (List β)
  | [] => some []
  | x :: r => (f x).bind fun y => (mapO f r).bind fun ys => some (y :: ys)
def boolsD : List D → Option (List Bool) := mapO fun d => match d with | .bool b => some b | _ => none
def intsD : List D → Option (List Int) := mapO fun d => match d with | .int i => some i | _ => none

mutual
/-- nesting at most n -/
def dle : Nat → D → Bool
  | 0, d => (match d with | .none | .bool _ | .int _ | .str _ => true | _ => false)
  | n + 1, d => (match d with | .list xs => dles n xs | .tuple xs => dles n xs | .dict _ => false | _ => true)
def dles : Nat → List D → Bool
  | _, [] => true
  | n, x :: xs => dle n x && dles n xs
end

def few : Nat := 100000
def small64 (i : Int) : Bool := decide (-(2 ^ 64) < i) && decide (i < 2 ^ 64)
def mulOk (xs : List D) (j : Int) : Bool := decide (0 ≤ j) && (decide (j ≤ 1000) && decide (xs.length ≤ 1000))
def binD : Operator → D → D → Option D
  | .Add, .int i, .int j => some (.int (i + j))
  | .Sub, .int i, .int j => some (.int (i - j))
  | .Mult, .int i, .int j => cond (small64 i || small64 j) (some (.int (i * j))) none
  | .FloorDiv, .int i, .int j => cond (decide (0 < j) && decide (j < 1073741824)) (some (.int (i / j))) none
  | .Mod, .int i, .int j => cond (decide (0 < j)) (some (.int (i % j))) none
  | .Pow, .int i, .int j => cond (decide (0 ≤ j) && (decide (j ≤ 1000000) && decide (i.natAbs < 2 ^ 64))) (some (.int (i ^ j.toNat))) none
  | .Add, .list xs, .list ys => cond (decide (xs.length + ys.length ≤ few)) (some (.list (xs ++ ys))) none
  | .Add, .tuple xs, .tuple ys => cond (decide (xs.length + ys.length ≤ few)) (some (.tuple (xs ++ ys))) none
  | .Mult, .list xs, .int j => cond (mulOk xs j) (some (.list (List.replicate j.toNat xs).flatten)) none
  | .Mult, .tuple xs, .int j => cond (mulOk xs j && !xs.isEmpty) (some (.tuple (List.replicate j.toNat xs).flatten)) none
  | _, _, _ => none
/-- a dict of the text with text keys -/
def dget (kvs : List (D × D)) (x : Str) : Option D :=
  match kvs with
  | [] => none
  | (k, v) :: r => (match k with
    | .str y => cond (decide (y = x)) (some v) (dget r x)
    | _ => dget r x)

/-- a dict of the text itself -/
def dtab (kvs : List (D × D)) : Bool := kvs.all fun p => match p.1 with
  | .str _ => true
  | _ => false
/-- an own exception, held -/
def excD (x : Str) (v : D) : D := .dict [(.tuple [.str x], v)]
def mkD (f : Str) : List D → Option D
  | [v] => some (excD f v)
  | _ => none
def eqD (x y : D) : Option Bool := cond (dle 60 x && dle 60 y) (some (PyData.eqv x y)) none
def inD (x y : D) : Option Bool :=
  match y with
  | .list ys => cond (dle 60 x && dle 60 (.list ys)) (some (ys.any fun z => PyData.eqv z x)) none
  | .tuple ys => cond (dle 60 x && dle 60 (.tuple ys)) (some (ys.any fun z => PyData.eqv z x)) none
  | .dict kvs => (match x with | .str z => cond (dtab kvs) (some (dget kvs z).isSome) none | _ => none)
  | _ => none
def cmpI (x y : D) (f : Int → Int → Bool) : Option Bool :=
  match x, y with
  | .int i, .int j => some (f i j)
  | _, _ => none
def isB (x y : D) : Option Bool :=
  match x, y with
  | .bool a, .bool b => some (a == b)
  | _, _ => none
def isNone : D → Bool
  | .none => true
  | _ => false
/-- a comparison by values -/
def cmpD : CmpOp → D → D → Option Bool
  | .Eq, x, y => eqD x y
  | .NotEq, x, y => (eqD x y).map (!·)
  | .Lt, x, y => cmpI x y fun i j => decide (i < j)
  | .LtE, x, y => cmpI x y fun i j => decide (i ≤ j)
  | .Gt, x, y => cmpI x y fun i j => decide (j < i)
  | .GtE, x, y => cmpI x y fun i j => decide (j ≤ i)
  | .In, x, y => inD x y
  | .NotIn, x, y => (inD x y).map (!·)
  | .Is, x, y => (match y with | .none => some (isNone x) | _ => isB x y)
  | .IsNot, x, y => (match y with | .none => some (!isNone x) | _ => (isB x y).map (!·))
def truD : D → Option Bool
  | .none => some false
  | .bool b => some b
  | .int i => some (i != 0)
  | .list xs => some (!xs.isEmpty)
  | .tuple xs => some (!xs.isEmpty)
  | _ => none
def ixD (x y : D) : Option D :=
  match x, y with
  | .list xs, .int i => atI xs i
  | .tuple xs, .int i => atI xs i
  | .dict kvs, .str z => cond (dtab kvs) (dget kvs z) none
  | _, _ => none
def cut (xs : List D) (lo hi : Option Int) : List D := (xs.drop (HT.sIx xs.length 0 lo)).take (HT.sIx xs.length xs.length hi - HT.sIx xs.length 0 lo)
def slD (x : D) (lo hi : Option Int) : Option D :=
  match x with
  | .list xs => some (.list (cut xs lo hi))
  | .tuple xs => some (.tuple (cut xs lo hi))
  | _ => none
/-- sorting data of one form -/
def isTupN : D → Bool
  | .tuple (_ :: _) => true
  | _ => false
def isPlainD : D → Bool
  | .none => false
  | .tuple _ => false
  | _ => true
def sortOk (xs : List D) : Bool := xs.all (fun x => xs.all fun y => PySem.W.alike x y) && ((xs.all isTupN || xs.all isPlainD) && (dles 60 xs && decide (xs.length ≤ few)))
def sortD : List D → Option D
  | [.list xs] => cond (sortOk xs) (some (.list (xs.mergeSort (PySem.W.dataLe false id)))) none
  | _ => none
/-! ### data as keys -/
mutual
def keyD : D → Option NestedKey
  | .none => some .none
  | .bool b => some (.num (if b = true then 1 else 0))
  | .int i => some (.num i)
  | .str x => some (.text x)
  | .tuple xs => (keysD xs).map .tup
  | .list _ => none
  | .dict _ => none
def keysD : List D → Option (List NestedKey)
  | [] => some []
  | x :: r => (keyD x).bind fun k => (keysD r).map (k :: ·)
end
def keyOk (d : D) : Bool := isTupN d && (match keyD d with
  | some k => decide (k.depth ≤ 8)
  | none => false)
def dedE : List D → List D
  | [] => []
  | x :: r => cond (r.any fun y => PyData.eqv x y) (dedE r) (x :: dedE r)
def setOk (xs : List D) : Bool := xs.all (fun x => xs.all fun y => PySem.W.alike x y) && (xs.all keyOk && (dles 60 xs && decide (xs.length < 64)))
def ssetD : List D → Option D
  | [.list xs] => cond (setOk xs) (some (.list ((dedE xs).mergeSort (PySem.W.dataLe false id)))) none
  | _ => none
def lsetD : List D → Option D
  | [.list xs] => cond (setOk xs) (some (.int (dedE xs).length)) none
  | _ => none
def zip3T : List D → List D → List D → List D
  | x :: xs, y :: ys, z :: zs => .tuple [x, y, z] :: zip3T xs ys zs
  | _, _, _ => []
def zip3D : List D → Option D
  | [.tuple xs, .tuple ys, .tuple zs] => cond (decide (ys.length = xs.length) && (decide (zs.length = xs.length) && decide (xs.length ≤ few))) (some (.list (zip3T xs ys zs))) none
  | _ => none
/-- of a dict of the text itself -/
def getD2 : D → D → D → Option D
  | .dict kvs, .str z, y => cond (dtab kvs) (some ((dget kvs z).getD y)) none
  | _, _, _ => none
/-- a display of texts and numbers -/
def dispD : List (Option Expr) → List Expr → Option (List (Str × Int))
  | [], [] => some []
  | some (.Constant (.str k) _ _) :: ks, .Constant (.int v) _ _ :: vs => (dispD ks vs).bind fun r => cond (r.any fun p => decide (p.1 = k)) none (some ((k, v) :: r))
  | _, _ => none
def lookI (z : Str) : List (Str × Int) → Option Int
  | [] => none
  | (k, v) :: r => cond (decide (k = z)) (some v) (lookI z r)
def getI2 (kvs : List (Str × Int)) : D → D → Option D
  | .str z, y => cond (decide (kvs.length ≤ 15) && !kvs.isEmpty) (some (match lookI z kvs with
    | some v => .int v
    | none => y)) none
  | _, _ => none
/-- the text of data -/
def reprD : List D → Option D
  | [d] => cond (dle 60 d && (PyData.layable0 d && (d.intsShort 13 && d.showable))) (some (.str d.shown)) none
  | _ => none
inductive BI where
  | len | abs | int | min | max | all | any | sum | tuple | repr | sorted
def bName : BI → Str
  | .len => "len" | .abs => "abs" | .int => "int" | .min => "min" | .max => "max" | .all => "all" | .any => "any" | .sum => "sum" | .tuple => "tuple" | .repr => "repr" | .sorted => "sorted"
def bAll : List BI := [.len, .abs, .int, .min, .max, .all, .any, .sum, .tuple, .repr, .sorted]
def bFindIn (f : Str) : List BI → Option BI
  | [] => none
  | b :: r => cond (decide (bName b = f)) (some b) (bFindIn f r)
def bFind (f : Str) : Option BI := bFindIn f bAll
def listsD : List D → Option (List (List D)) := mapO fun d => match d with | .list l => some l | _ => none
def maxI : List Int → Option D
  | [] => none
  | x :: r => some (.int (r.foldl (fun a b => cond (decide (a < b)) b a) x))
def bD : BI → List D → Option D
  | .len, [.list xs] => some (.int xs.length)
  | .len, [.tuple xs] => some (.int xs.length)
  | .abs, [.int i] => some (.int (cond (decide (i < 0)) (-i) i))
  | .int, [.int i] => some (.int i)
  | .int, [.bool b] => some (.int (cond b 1 0))
  | .min, [.int i, .int j] => some (.int (cond (decide (j < i)) j i))
  | .max, [.int i, .int j] => some (.int (cond (decide (j > i)) j i))
  | .max, [.list xs] => (intsD xs).bind maxI
  | .all, [.list xs] => (boolsD xs).map fun bs => .bool (bs.all id)
  | .any, [.list xs] => (boolsD xs).map fun bs => .bool (bs.any id)
  | .sum, [.list xs] => (intsD xs).map fun is => .int is.sum
  | .sum, [.list (x :: xs), .list ys] => (listsD (x :: xs)).bind fun ls => cond (decide (ys.length + ls.flatten.length ≤ few)) (some (.list (ys ++ ls.flatten))) none
  | .tuple, [.list xs] => some (.tuple xs)
  | .tuple, [.tuple xs] => some (.tuple xs)
  | .repr, ds => reprD ds
  | .sorted, ds => sortD ds
  | _, _ => none

inductive Ty where
  | tuple | int | bool | str | list
def tName : Ty → Str
  | .tuple => "tuple" | .int => "int" | .bool => "bool" | .str => "str" | .list => "list"
def tString : Ty → String
  | .tuple => "tuple" | .int => "int" | .bool => "bool" | .str => "str" | .list => "list"
def tFindIn (f : Str) : List Ty → Option Ty
  | [] => none
  | b :: r => cond (decide (tName b = f)) (some b) (tFindIn f r)
def tFind (f : Str) : Option Ty := tFindIn f [.tuple, .int, .bool, .str, .list]
def isTy (t : Ty) (d : D) : Option Bool :=
  match d with
  | .none => some false
  | .bool _ => some (match t with | .bool => true | .int => true | _ => false)
  | .int _ => some (match t with | .int => true | _ => false)
  | .str _ => some (match t with | .str => true | _ => false)
  | .list _ => some (match t with | .list => true | _ => false)
  | .tuple _ => some (match t with | .tuple => true | _ => false)
  | .dict _ => none

def constD : Const → Option D
  | .none => some .none
  | .bool b => some (.bool b)
  | .int i => some (.int i)
  | .str s => some (.str s)
  | _ => none

def setSl (σ : List Sl) (i : Nat) (d : D) : List Sl := σ.set i (.sh d)
/-- store in a name, in several names -/
def asgN (N : List Str) (σ : List Sl) (x : Str) (d : D) : Option (List Sl) := (N.idxOf? x).bind fun i => some (setSl σ i d)
def asgs (N : List Str) : List Expr → List D → List Sl → Option (List Sl)
  | [], [], σ => some σ
  | .Name x _ :: es, d :: ds, σ => (asgN N σ x d).bind fun σ' => asgs N es ds σ'
  | _, _, _ => none
def asg (N : List Str) (σ : List Sl) (t : Expr) (d : D) : Option (List Sl) :=
  match t with
  | .Name x _ => asgN N σ x d
  | .Tuple es _ _ => (match d with
    | .tuple ds => asgs N es ds σ
    | .list ds => asgs N es ds σ
    | _ => none)
  | _ => none

/-- the arguments, the items of a display -/
def args (f : Bool → Expr → Option D) : List Expr → Option (List D)
  | [] => some []
  | .Starred e _ :: r => (f true e).bind fun d => (items d).bind fun xs => (args f r).bind fun ys => some (xs ++ ys)
  | e :: r => (f false e).bind fun d => (args f r).bind fun ys => some (d :: ys)
def intRange (lo : Int) : Nat → List D
  | 0 => []
  | n + 1 => .int lo :: intRange (lo + 1) n
def small62 (i : Int) : Bool := decide (-(2 ^ 62) ≤ i) && decide (i < 2 ^ 62)
def enumD (i : Int) : List D → List D
  | [] => []
  | x :: r => .tuple [.int i, x] :: enumD (i + 1) r
def zipT : List D → List D → List D
  | x :: xs, y :: ys => .tuple [x, y] :: zipT xs ys
  | _, _ => []
def zipD : D → D → Option (List D)
  | .list xs, .list ys => some (zipT xs ys)
  | .tuple xs, .tuple ys => some (zipT xs ys)
  | _, _ => none
/-- what a for walks -/
def iter (N : List Str) (f : Expr → Option D) (e : Expr) : Option (List D) :=
  match e with
  | .Call (.Name g _) [a] [] _ => cond (decide (g = "range")) ((f a).bind fun d => match d with
      | .int j => cond (small62 j) (some (intRange 0 j.toNat)) none
      | _ => none) ((f e).bind items)
  | .Call (.Name g _) [a, b] [] _ => cond (decide (g = "range")) ((f a).bind fun d => (f b).bind fun d' => match d, d' with
      | .int i, .int j => cond (small62 i && small62 j) (some (intRange i (j - i).toNat)) none
      | _, _ => none) (cond (decide (g = "zip")) ((f a).bind fun d => (f b).bind fun d' => zipD d d') ((f e).bind items))
  | e => (f e).bind items

/-- all tests of a comprehension -/
def tests (f : Expr → Option Bool) : List Expr → Option Bool
  | [] => some true
  | c :: r => (f c).bind fun b => cond b (tests f r) (some false)
/-- the names of a comprehension's own block, with their slots -/
def ownOf (N : List Str) : List (Str × NameKind) → List (Str × Nat)
  | [] => []
  | (x, k) :: r => (match k with
    | .free => ownOf N r
    | _ => (match N.idxOf? x with
      | some i => (x, i) :: ownOf N r
      | none => ownOf N r))
def wipeD (es : List Sl) : List Nat → List Sl
  | [] => es
  | v :: vs => (wipeD es vs).set v .un
def namesIx (N : List Str) : List Expr → List Nat
  | [] => []
  | .Name x _ :: r => (match N.idxOf? x with
    | some i => i :: namesIx N r
    | none => namesIx N r)
  | _ :: r => namesIx N r
def tgIx (N : List Str) : Expr → List Nat
  | .Name x p => namesIx N [.Name x p]
  | .Tuple es _ _ => namesIx N es
  | _ => []
def lim (r : Option (List D)) : Option D := r.bind fun ys => cond (decide (ys.length ≤ few)) (some (.list ys)) none
/-- the elements -/
def comp1 (g : D → Option (List Sl)) (t : List Sl → Option Bool) (f : List Sl → Option D) : List D → Option (List D)
  | [] => some []
  | x :: r => (g x).bind fun σ => (t σ).bind fun b => cond b ((f σ).bind fun y => (comp1 g t f r).bind fun ys => some (y :: ys)) (comp1 g t f r)
def comp2 (g : D → Option (List Sl)) (it : List Sl → Option (List D)) (inner : List Sl → List D → Option (List D)) : List D → Option (List D)
  | [] => some []
  | x :: r => (g x).bind fun σ => (it σ).bind fun zs => (inner σ zs).bind fun ys => (comp2 g it inner r).bind fun ws => some (ys ++ ws)

/-- the elements of a comprehension by what one item gives: nothing, or an element -/
def compM (F : D → Option (Option D)) : List D → Option (List D)
  | [] => some []
  | x :: r => (F x).bind fun o => (compM F r).bind fun ys => some (match o with
    | some y => y :: ys
    | none => ys)
def compJ (F : D → Option (List D)) : List D → Option (List D)
  | [] => some []
  | x :: r => (F x).bind fun ys => (compJ F r).bind fun ws => some (ys ++ ws)
theorem comp1_eq (g : D → Option (List Sl)) (t : List Sl → Option Bool) (f : List Sl → Option D) : ∀ xs, comp1 g t f xs = compM (fun x => (g x).bind fun σ => (t σ).bind fun b => cond b ((f σ).bind fun y => some (some y)) (some none)) xs
  | [] => rfl
  | x :: r => by
    unfold comp1 compM
    rw [comp1_eq g t f r]
    cases g x with
    | none => rfl
    | some σ =>
      simp only [Option.bind_some]
      cases t σ with
      | none => rfl
      | some b =>
        cases b with
        | true =>
          simp only [Option.bind_some, cond_true]
          cases f σ with
          | none => rfl
          | some y => rfl
        | false =>
          simp only [Option.bind_some, cond_false]
          generalize compM _ r = q
          cases q <;> rfl
theorem comp2_eq (g : D → Option (List Sl)) (it : List Sl → Option (List D)) (inner : List Sl → List D → Option (List D)) : ∀ xs, comp2 g it inner xs = compJ (fun x => (g x).bind fun σ => (it σ).bind fun zs => inner σ zs) xs
  | [] => rfl
  | x :: r => by
    unfold comp2 compJ
    rw [comp2_eq g it inner r]
    cases g x with
    | none => rfl
    | some σ =>
      simp only [Option.bind_some]
      cases it σ <;> rfl
/-- a call of a call -/
inductive NestE where
  | sset (a : Expr) | lset (a : Expr) | zip3 (es : List Expr)
def nestA (f : Str) : List Expr → Option NestE
  | [.Call (.Name g _) es [] _] => (match es with
    | [a] => cond (decide (g = "set")) (cond (decide (f = "sorted")) (some (.sset a)) (cond (decide (f = "len")) (some (.lset a)) none)) none
    | [a, b, c] => cond (decide (g = "zip") && decide (f = "list")) (some (.zip3 [a, b, c])) none
    | _ => none)
  | _ => none
mutual
def ev (c : Cfg) : Nat → Bool → List Sl → Expr → Option D
  | 0, _, _, _ => none
  | n + 1, b, σ, e =>
    match e with
    | .Constant k _ _ => constD k
    | .Name x _ => (match c.N.idxOf? x with
      | some i => (σ[i]?).bind (rd b)
      | none => c.G.g x)
    | .Tuple es _ _ => (args (fun b e => ev c n b σ e) es).bind fun ds => cond (decide (ds.length ≤ few)) (some (.tuple ds)) none
    | .List es _ => (args (fun b e => ev c n b σ e) es).bind fun ds => cond (decide (ds.length ≤ few)) (some (.list ds)) none
    | .BinOp l o r _ => (ev c n true σ l).bind fun x => (ev c n true σ r).bind fun y => binD o x y
    | .UnaryOp .Not x _ => (ev c n true σ x).bind fun d => (truD d).map fun k => .bool !k
    | .UnaryOp .USub x _ => (ev c n true σ x).bind fun d => match d with
      | .int i => some (.int (-i))
      | _ => none
    | .BoolOp .And vs _ => andV c n b σ vs
    | .BoolOp .Or vs _ => orV c n b σ vs
    | .IfExp t x y _ => (tst c n σ t).bind fun k => cond k (ev c n b σ x) (ev c n b σ y)
    | .Compare l [o] [r] _ => (ev c n true σ l).bind fun x => (ev c n true σ r).bind fun y => (cmpD o x y).map .bool
    | .Compare l [o, o'] [m, r] _ => (ev c n true σ l).bind fun x => (ev c n true σ m).bind fun y => (cmpD o x y).bind fun k =>
        cond k ((ev c n true σ r).bind fun z => (cmpD o' y z).map .bool) (some (.bool false))
    | .Subscript x (.Slice lo hi none _) _ => (ev c n true σ x).bind fun d => (part c n σ lo).bind fun l => (part c n σ hi).bind fun h => slD d l h
    | .Subscript x i _ => (ev c n true σ x).bind fun d => (ev c n true σ i).bind fun j => ixD d j
    | .Call (.Attribute e m _) [x, y] [] _ => cond (decide (m = "get")) (match e with
        | .Dict ks vs _ => (dispD ks vs).bind fun kvs => (ev c n true σ x).bind fun d => (ev c n b σ y).bind fun d' => getI2 kvs d d'
        | e => (ev c n true σ e).bind fun k => (ev c n true σ x).bind fun d => (ev c n b σ y).bind fun d' => getD2 k d d') none
    | .Call (.Name f _) as [] _ =>
      match nestA f as with
      | some (.sset a) => (ev c n true σ a).bind fun d => ssetD [d]
      | some (.lset a) => (ev c n true σ a).bind fun d => lsetD [d]
      | some (.zip3 es) => (args (fun _ e => ev c n true σ e) es).bind zip3D
      | none => (cond (decide (f = "isinstance")) (match as with
        | [x, .Name t _] => (match tFind t with
          | some t => (ev c n true σ x).bind fun d => (isTy t d).map .bool
          | none => (ev c n true σ x).bind fun d => c.G.i t d)
        | _ => none)
        (match bFind f with
        | some bi => (args (fun _ e => ev c n true σ e) as).bind (bD bi)
        | none => cond (c.G.m f) ((args (fun _ e => ev c n false σ e) as).bind (mkD f)) ((args (fun _ e => ev c n false σ e) as).bind (c.C f))))
    | .Attribute e a _ => (ev c n true σ e).bind fun d => c.G.a a d
    | .ListComp elt [⟨t, it, ifs, 0⟩] sc _ =>
      (iter c.N (ev c n true σ) it).bind fun xs => lim (compM (fun x => (asg c.N (wipeD σ ((ownOf c.N sc.names).map (·.2))) t x).bind fun σ' => (tests (tst c n σ') ifs).bind fun b => cond b ((ev c n false σ' elt).bind fun y => some (some y)) (some none)) xs)
    | .ListComp elt [⟨t, it, [], 0⟩, ⟨t', it', ifs', 0⟩] sc _ =>
      (iter c.N (ev c n true σ) it).bind fun xs => lim (compJ (fun x => (asg c.N (wipeD σ ((ownOf c.N sc.names).map (·.2))) t x).bind fun σ' => (iter c.N (ev c n false σ') it').bind fun zs =>
        compM (fun x => (asg c.N (wipeD σ' (tgIx c.N t')) t' x).bind fun σ'' => (tests (tst c n σ'') ifs').bind fun b => cond b ((ev c n false σ'' elt).bind fun y => some (some y)) (some none)) zs) xs)
    | _ => none
def part (c : Cfg) : Nat → List Sl → Option Expr → Option (Option Int)
  | 0, _, _ => none
  | _ + 1, _, none => some none
  | n + 1, σ, some e => (ev c n true σ e).bind fun d => match d with
    | .int i => some (some i)
    | _ => none
def andV (c : Cfg) : Nat → Bool → List Sl → List Expr → Option D
  | 0, _, _, _ => none
  | _ + 1, _, _, [] => none
  | n + 1, b, σ, [e] => ev c n b σ e
  | n + 1, b, σ, e :: r => (ev c n b σ e).bind fun d => (truD d).bind fun k => cond k (andV c n b σ r) (some d)
def orV (c : Cfg) : Nat → Bool → List Sl → List Expr → Option D
  | 0, _, _, _ => none
  | _ + 1, _, _, [] => none
  | n + 1, b, σ, [e] => ev c n b σ e
  | n + 1, b, σ, e :: r => (ev c n b σ e).bind fun d => (truD d).bind fun k => cond k (some d) (orV c n b σ r)
/-- a test -/
def tst (c : Cfg) : Nat → List Sl → Expr → Option Bool
  | 0, _, _ => none
  | n + 1, σ, e =>
    match e with
    | .BoolOp .And vs _ => andT c n σ vs
    | .BoolOp .Or vs _ => orT c n σ vs
    | .UnaryOp .Not x _ => (tst c n σ x).map (!·)
    | .IfExp t x y _ => (tst c n σ t).bind fun k => cond k (tst c n σ x) (tst c n σ y)
    | .Compare l [o] [r] _ => (ev c n true σ l).bind fun x => (ev c n true σ r).bind fun y => cmpD o x y
    | .Compare l [o, o'] [m, r] _ => (ev c n true σ l).bind fun x => (ev c n true σ m).bind fun y => (cmpD o x y).bind fun k =>
        cond k ((ev c n true σ r).bind fun z => cmpD o' y z) (some false)
    | e => (ev c n true σ e).bind truD
def andT (c : Cfg) : Nat → List Sl → List Expr → Option Bool
  | 0, _, _ => none
  | _ + 1, _, [] => none
  | n + 1, σ, [e] => tst c n σ e
  | n + 1, σ, e :: r => (tst c n σ e).bind fun k => cond k (andT c n σ r) (some false)
def orT (c : Cfg) : Nat → List Sl → List Expr → Option Bool
  | 0, _, _ => none
  | _ + 1, _, [] => none
  | n + 1, σ, [e] => tst c n σ e
  | n + 1, σ, e :: r => (tst c n σ e).bind fun k => cond k (some true) (orT c n σ r)
end
end EV

namespace EV
open PySem L2

/-- names that an expression hands on (not: asks and forgets) -/
def esc (N : List Str) : Nat → Bool → Expr → List Str
  | 0, _, _ => []
  | n + 1, b, e =>
    match e with
    | .Name x _ => cond b [] [x]
    | .Tuple es _ _ => es.flatMap fun e => match e with
      | .Starred e _ => esc N n true e
      | e => esc N n false e
    | .List es _ => es.flatMap fun e => match e with
      | .Starred e _ => esc N n true e
      | e => esc N n false e
    | .BinOp l _ r _ => esc N n true l ++ esc N n true r
    | .UnaryOp _ x _ => esc N n true x
    | .BoolOp _ vs _ => vs.flatMap (esc N n b)
    | .IfExp t x y _ => esc N n true t ++ esc N n b x ++ esc N n b y
    | .Compare l _ rs _ => esc N n true l ++ rs.flatMap (esc N n true)
    | .Subscript x (.Slice lo hi _ _) _ => esc N n true x ++ lo.toList.flatMap (esc N n true) ++ hi.toList.flatMap (esc N n true)
    | .Subscript x i _ => esc N n true x ++ esc N n true i
    | .Call (.Name f _) as _ _ => as.flatMap fun e => match e with
      | .Starred e _ => esc N n true e
      | e => esc N n ((bFind f).isSome || decide (f = "isinstance") || decide (f = "range")) e
    | .Call (.Attribute e _ _) [x, y] _ _ => esc N n true e ++ esc N n true x ++ esc N n b y
    | .ListComp elt gs _ _ => esc N n false elt ++ match gs with
      | [] => []
      | g :: gs => esc N n true g.iter ++ g.ifs.flatMap (esc N n true) ++ gs.flatMap fun g => esc N n false g.iter ++ g.ifs.flatMap (esc N n true)
    | _ => []
def shareN (N : List Str) (xs : List Str) (σ : List Sl) : List Sl := xs.foldl (fun σ x => match N.idxOf? x with
  | some i => σ.modify i Sl.share
  | none => σ) σ
def isFresh : Expr → Bool
  | .List _ _ => true
  | .ListComp _ _ _ _ => true
  | _ => false
/-- a sum: if it is a list, a new one -/
def isAdd : Expr → Bool
  | .BinOp _ .Add _ _ => true
  | _ => false
def owS : D → Sl
  | .list l => .ow l
  | d => .sh d
inductive Fl where
  | next (σ : List Sl) | ret (d : D) | brk (σ : List Sl) | cont (σ : List Sl)

def setOw (σ : List Sl) (i : Nat) (fresh : Bool) (d : D) : List Sl :=
  match d with
  | .list l => σ.set i (cond fresh (.ow l) (.sh d))
  | _ => σ.set i (.sh d)
/-- a loop over data -/
def forL (g : List Sl → D → Option (List Sl)) (body : List Sl → Option Fl) : List D → List Sl → Option Fl
  | [], σ => some (.next σ)
  | x :: r, σ => (g σ x).bind fun σ1 => (body σ1).bind fun
    | .next σ2 => forL g body r σ2
    | .cont σ2 => forL g body r σ2
    | .brk σ2 => some (.next σ2)
    | .ret d => some (.ret d)
def whileL (t : List Sl → Option Bool) (body : List Sl → Option Fl) : Nat → List Sl → Option Fl
  | 0, _ => none
  | n + 1, σ => (t σ).bind fun k => cond k ((body σ).bind fun
    | .next σ2 => whileL t body n σ2
    | .cont σ2 => whileL t body n σ2
    | .brk σ2 => some (.next σ2)
    | .ret d => some (.ret d)) (some (.next σ))
def turns : Nat := 10000000
def ED : Nat := 60

mutual
def ex (c : Cfg) : Nat → List Sl → Stmt → Option Fl
  | 0, _, _ => none
  | n + 1, σ, st =>
    match st with
    | .Return (some e) _ => (ev c ED false (σ.map Sl.share) e).map .ret
    | .Return none _ => some (.ret .none)
    | .Pass _ => some (.next σ)
    | .Break _ => some (.brk σ)
    | .Continue _ => some (.cont σ)
    | .Expr (.Constant (.str _) _ _) _ => some (.next σ)
    | .Expr (.Call (.Attribute (.Name x _) m _) [a] [] _) _ =>
      cond (decide (m = "append")) ((c.N.idxOf? x).bind fun i =>
        (ev c ED false (shareN c.N (esc c.N ED false a) σ) a).bind fun d => match (shareN c.N (esc c.N ED false a) σ)[i]? with
          | some (.ow l) => cond (decide (l.length < few)) (some (.next ((shareN c.N (esc c.N ED false a) σ).set i (.ow (l ++ [d]))))) none
          | _ => none) (cond (decide (m = "extend") && isFresh a) ((c.N.idxOf? x).bind fun i =>
        (ev c ED false (shareN c.N (esc c.N ED false a) σ) a).bind fun d => match (shareN c.N (esc c.N ED false a) σ)[i]?, d with
          | some (.ow l), .list ds => cond (decide (l.length + ds.length ≤ few)) (some (.next ((shareN c.N (esc c.N ED false a) σ).set i (.ow (l ++ ds))))) none
          | _, _ => none) none)
    | .Expr (.Call (.Name f p) as [] q) _ => (ev c ED false (shareN c.N (esc c.N ED false (.Call (.Name f p) as [] q)) σ) (.Call (.Name f p) as [] q)).bind fun _ => some (.next (shareN c.N (esc c.N ED false (.Call (.Name f p) as [] q)) σ))
    | .Assign [.Name x _] e _ => (c.N.idxOf? x).bind fun i => (ev c ED false (shareN c.N (esc c.N ED false e) σ) e).bind fun d => some (.next (setOw (shareN c.N (esc c.N ED false e) σ) i (isFresh e || isAdd e) d))
    | .Assign [.Subscript (.Name x _) (.Constant (.int j) _ _) _] e _ => (c.N.idxOf? x).bind fun i => (ev c ED false (shareN c.N (esc c.N ED false e) σ) e).bind fun d => match (shareN c.N (esc c.N ED false e) σ)[i]? with
        | some (.ow l) => (ixN l.length j).bind fun k => some (.next ((shareN c.N (esc c.N ED false e) σ).set i (.ow (l.set k d))))
        | _ => none
    | .Assign [.Tuple es k p] e _ => (ev c ED false (shareN c.N (esc c.N ED false e) σ) e).bind fun d => (asg c.N (shareN c.N (esc c.N ED false e) σ) (.Tuple es k p) d).map .next
    | .If t a b _ => (tst c ED (shareN c.N (esc c.N ED true t) σ) t).bind fun k => cond k (exs c n (shareN c.N (esc c.N ED true t) σ) a) (exs c n (shareN c.N (esc c.N ED true t) σ) b)
    | .For t it body [] _ => (iter c.N (ev c ED false (shareN c.N (esc c.N ED false it) σ)) it).bind fun xs => forL (fun σ x => asg c.N σ t x) (fun σ => exs c n σ body) xs (shareN c.N (esc c.N ED false it) σ)
    | .While t body [] _ => whileL (fun σ => tst c ED σ t) (fun σ => exs c n σ body) turns (shareN c.N (esc c.N ED true t) σ)
    | _ => none
def exs (c : Cfg) : Nat → List Sl → List Stmt → Option Fl
  | 0, _, _ => none
  | _ + 1, σ, [] => some (.next σ)
  | n + 1, σ, st :: r => (ex c n σ st).bind fun
    | .next σ' => exs c n σ' r
    | f => some f
end
/-- a def called: its parameters first, the other names unset -/
def callD (c : Cfg) (np : Nat) (body : List Stmt) (ds : List D) : Option D :=
  cond (decide (ds.length = np)) ((exs c ED (ds.map Sl.sh ++ List.replicate (c.N.length - np) .un) body).bind fun
    | .ret d => some d
    | .next _ => some .none
    | _ => none) none
/-- the defs of a text: name, names of the slots, how many parameters, body -/
structure Df where
  name : Str
  N : List Str
  np : Nat
  body : List Stmt
  pr : Option (List D → Option D)
def findD (x : Str) : List Df → Option Df
  | [] => none
  | d :: r => cond (decide (d.name = x)) (some d) (findD x r)
def callN (P : List Df) (G : GI) : Nat → Str → List D → Option D
  | 0, _, _ => none
  | k + 1, f, ds => (findD f P).bind fun d => match d.pr with
    | none => callD ⟨d.N, G, callN P G k⟩ d.np d.body ds
    | some g => cond (decide (8 ≤ k)) (g ds) none
end EV

namespace EV
open PySem L2
/-! the names of all comprehensions blocks in an expression -/
mutual
def cnE : Expr → List Str
  | .BoolOp _ vs _ => cnEs vs
  | .BinOp l _ r _ => cnE l ++ cnE r
  | .UnaryOp _ x _ => cnE x
  | .IfExp t x y _ => cnE t ++ cnE x ++ cnE y
  | .Dict _ vs _ => cnEs vs
  | .ListComp elt gs sc _ => (sc.names.filterMap fun (x, k) => match k with | .local => some x | .cell => some x | _ => none) ++ cnE elt ++ cnGs gs
  | .Compare l _ rs _ => cnE l ++ cnEs rs
  | .Call f as _ _ => cnE f ++ cnEs as
  | .Attribute v _ _ => cnE v
  | .Subscript x i _ => cnE x ++ cnE i
  | .Starred v _ => cnE v
  | .List es _ => cnEs es
  | .Tuple es _ _ => cnEs es
  | .Slice lo hi _ _ => cnO lo ++ cnO hi
  | _ => []
def cnEs : List Expr → List Str
  | [] => []
  | e :: r => cnE e ++ cnEs r
def cnO : Option Expr → List Str
  | none => []
  | some e => cnE e
def cnGs : List Comprehension → List Str
  | [] => []
  | ⟨_, it, ifs, _⟩ :: r => cnE it ++ cnEs ifs ++ cnGs r
end
mutual
def cnS : Stmt → List Str
  | .Return (some e) _ => cnE e
  | .Assign ts e _ => cnEs ts ++ cnE e
  | .For _ it b o _ => cnE it ++ cnSs b ++ cnSs o
  | .While t b o _ => cnE t ++ cnSs b ++ cnSs o
  | .If t a b _ => cnE t ++ cnSs a ++ cnSs b
  | .Expr e _ => cnE e
  | .Raise (some e) _ _ => cnE e
  | _ => []
def cnSs : List Stmt → List Str
  | [] => []
  | s :: r => cnS s ++ cnSs r
end
def dedup (l : List Str) : List Str := l.foldl (fun acc x => if acc.contains x then acc else acc ++ [x]) []
def dfOf : Stmt → Option Df
  | .FunctionDef x a body _ _ _ sc _ _ _ => some ⟨x, dedup (a.args.map (·.arg) ++ sc.names.filterMap (fun (x, k) => match k with | .local => some x | .cell => some x | _ => none) ++ cnSs body), a.args.length, body, none⟩
  | _ => none
def dfsOf (b : List Stmt) : List Df := b.filterMap dfOf
end EV

set_option maxRecDepth 100000
namespace EV
open PySem L2 PyProof.Rows

/-- the text's own sort of tracked list: owned addresses hold lists -/
def OkO (O : Addr → Prop) (H : Hp) : Prop := ∀ a, O a → ∃ ys, H a = some (.lst ys)
theorem OkO.same {O : Addr → Prop} {H H' : Hp} (h : OkO O H) (s : Same H H') : OkO O H' := fun a ha => let ⟨ys, e⟩ := h a ha; ⟨ys, s a _ e⟩
theorem OkO.none {O : Addr → Prop} {H : Hp} (h : OkO O H) {p : Addr} (hp : H p = none) : ¬ O p := fun ha => by
  obtain ⟨ys, e⟩ := h p ha
  rw [hp] at e; cases e

/-- a list of the module itself -/
def KL (K : PySem.W.Frag) (a : Addr) (xs : List V) : Prop := ∃ (o : Obj) (its : Array Value) (n : Nat), K.lookup a = some o ∧ o.cls = .type "list" ∧ o.dict = none ∧ o.data = .seq its n ∧ its.size ≤ sizeLine ∧ Vals xs its.toList
/-- an own exception at a, its dict at dx -/
def exoA (a C dx : Addr) : HO := .ext fun h => ∃ (oe : Obj) (vs : Array Value), h.get? a = some oe ∧ oe.cls = .ref C ∧ oe.dict = some dx ∧ oe.data = .fields vs
mutual
/-- a value that is data, and reaches no owned list -/
inductive Ro (K : PySem.W.Frag) (w : World) (O : Addr → Prop) (H : Hp) : V → D → Prop
  | non : Ro K w O H .non .none
  | bl (b : Bool) : Ro K w O H (.bl b) (.bool b)
  | int (i : Int) : Ro K w O H (.int i) (.int i)
  | str (x : Str) (h : PyData.canLay0 (.str x) = true) : Ro K w O H (.str x) (.str x)
  | lst {a : Addr} {xs : List V} {ds : List D} : Rd H a (.lst xs) → ¬ O a → RoAll K w O H xs ds → Ro K w O H (.ref a) (.list ds)
  | kls {a : Addr} {xs : List V} {ds : List D} : KL K a xs → RoAll K w O H xs ds → Ro K w O H (.ref a) (.list ds)
  | tup {a : Addr} {xs : List V} {ds : List D} : SqT K H a xs → RoAll K w O H xs ds → Ro K w O H (.ref a) (.tuple ds)
  | kdc {a : Addr} {es : Array DictEntry} {n : Nat} {ps : List (Str × V)} {ds : List D} : KDict K w a es n → (∀ p ∈ ps, ∃ u, PySem.W.nsIn K a p.1 = some (some u) ∧ RelV p.2 u) →
      (∀ z, z ∉ ps.map (·.1) → PySem.W.nsIn K a z = some none) → RoAll K w O H (ps.map (·.2)) ds → Ro K w O H (.ref a) (.dict ((ps.map fun p => PyData.str p.1).zip ds))
  | exc {a dx C : Addr} {x : Str} {u : V} {d : D} : H a = some (exoA a C dx) → H dx = some (.xd [("at", u)]) → PySem.W.nsIn K mainGlobals x = some (some (.ref C)) → Ro K w O H u d → Ro K w O H (.ref a) (excD x d)
inductive RoAll (K : PySem.W.Frag) (w : World) (O : Addr → Prop) (H : Hp) : List V → List D → Prop
  | nil : RoAll K w O H [] []
  | cons {v : V} {vs : List V} {d : D} {ds : List D} : Ro K w O H v d → RoAll K w O H vs ds → RoAll K w O H (v :: vs) (d :: ds)
end

section
variable {K : PySem.W.Frag} {w : World} {O O' : Addr → Prop} {H H' : Hp}
theorem Rd.same {a : Addr} {u : HO} (s : Same H H') (h : Rd H a u) : Rd H' a u := by
  rcases h with h | ⟨o, h⟩
  · exact .inl (s _ _ h)
  · exact .inr ⟨o, s _ _ h⟩
theorem SqT.same {a : Addr} {xs : List V} (s : Same H H') (h : SqT K H a xs) : SqT K H' a xs := by
  rcases h with h | h
  · exact .inl (Rd.same s h)
  · exact .inr h
theorem SqL.same {a : Addr} {xs : List V} (s : Same H H') (h : SqL K H a xs) : SqL K H' a xs := by
  rcases h with h | h
  · exact .inl (Rd.same s h)
  · exact .inr h
/-- what keeps a relation: every list that is not owned, every tuple, every locked thing stays -/
structure Keeps (O : Addr → Prop) (H H' : Hp) : Prop where
  l : ∀ a xs, H a = some (.lst xs) → ¬ O a → H' a = some (.lst xs)
  t : ∀ a xs, H a = some (.tup xs) → H' a = some (.tup xs)
  f : ∀ a o u, H a = some (.frz o u) → H' a = some (.frz o u)
  e : ∀ a φ, H a = some (.ext φ) → H' a = some (.ext φ)
  x : ∀ a fs, H a = some (.xd fs) → H' a = some (.xd fs)
theorem Same.keeps (s : Same H H') : Keeps O H H' := ⟨fun a xs h _ => s a _ h, fun a xs h => s a _ h, fun a o u h => s a _ h, fun a φ h => s a _ h, fun a fs h => s a _ h⟩
mutual
theorem Ro.keeps (k : Keeps O H H') (hO : ∀ a, O' a → O a ∨ H a = none) : ∀ {v : V} {d : D}, Ro K w O H v d → Ro K w O' H' v d
  | _, _, .non => .non
  | _, _, .bl b => .bl b
  | _, _, .int i => .int i
  | _, _, .str x h => .str x h
  | _, _, .lst (a := a) hr ho ha => .lst (by
      rcases hr with hr | ⟨o, hr⟩
      · exact .inl (k.l _ _ hr ho)
      · exact .inr ⟨o, k.f _ _ _ hr⟩) (fun h => by
        rcases hO _ h with h | h
        · exact ho h
        · rcases hr with hr | ⟨o, hr⟩ <;> rw [h] at hr <;> cases hr) (RoAll.keeps k hO ha)
  | _, _, .kls hr ha => .kls hr (RoAll.keeps k hO ha)
  | _, _, .tup hr ha => .tup (by
      rcases hr with (hr | ⟨o, hr⟩) | hr
      · exact .inl (.inl (k.t _ _ hr))
      · exact .inl (.inr ⟨o, k.f _ _ _ hr⟩)
      · exact .inr hr) (RoAll.keeps k hO ha)
  | _, _, .kdc hd h1 h2 h3 => .kdc hd h1 h2 (RoAll.keeps k hO h3)
  | _, _, .exc h1 h2 h3 h4 => .exc (k.e _ _ h1) (k.x _ _ h2) h3 (Ro.keeps k hO h4)
theorem RoAll.keeps (k : Keeps O H H') (hO : ∀ a, O' a → O a ∨ H a = none) : ∀ {vs : List V} {ds : List D}, RoAll K w O H vs ds → RoAll K w O' H' vs ds
  | _, _, .nil => .nil
  | _, _, .cons h t => .cons (Ro.keeps k hO h) (RoAll.keeps k hO t)
end
theorem Ro.same {v : V} {d : D} (s : Same H H') (h : Ro K w O H v d) : Ro K w O H' v d := h.keeps (Same.keeps s) fun _ h => .inl h
theorem RoAll.same {vs : List V} {ds : List D} (s : Same H H') (h : RoAll K w O H vs ds) : RoAll K w O H' vs ds := h.keeps (Same.keeps s) fun _ h => .inl h
/-- fewer owned -/
theorem Ro.less {v : V} {d : D} (hO : ∀ a, O' a → O a) (h : Ro K w O H v d) : Ro K w O' H v d := h.keeps (Same.keeps (Same.refl H)) fun a z => .inl (hO a z)
theorem RoAll.less {vs : List V} {ds : List D} (hO : ∀ a, O' a → O a) (h : RoAll K w O H vs ds) : RoAll K w O' H vs ds := h.keeps (Same.keeps (Same.refl H)) fun a z => .inl (hO a z)
theorem RoAll.length : ∀ {vs : List V} {ds : List D}, RoAll K w O H vs ds → vs.length = ds.length
  | _, _, .nil => rfl
  | _, _, .cons _ t => by simp [RoAll.length t]
theorem RoAll.app : ∀ {vs ws : List V} {ds es : List D}, RoAll K w O H vs ds → RoAll K w O H ws es → RoAll K w O H (vs ++ ws) (ds ++ es)
  | _, _, _, _, .nil, h => h
  | _, _, _, _, .cons h t, g => .cons h (RoAll.app t g)
theorem RoAll.get : ∀ {vs : List V} {ds : List D} {i : Nat} {d : D}, RoAll K w O H vs ds → ds[i]? = some d → ∃ v, vs[i]? = some v ∧ Ro K w O H v d
  | _, _, _, _, .nil, e => by simp at e
  | _, _, 0, _, .cons h _, e => by simp at e; subst e; exact ⟨_, rfl, h⟩
  | _, _, i + 1, _, .cons _ t, e => by
    obtain ⟨v, h1, h2⟩ := RoAll.get (i := i) t (by simpa using e)
    exact ⟨v, by simpa using h1, h2⟩
theorem RoAll.take : ∀ {vs : List V} {ds : List D} (n : Nat), RoAll K w O H vs ds → RoAll K w O H (vs.take n) (ds.take n)
  | _, _, 0, _ => .nil
  | _, _, _ + 1, .nil => .nil
  | _, _, n + 1, .cons h t => .cons h (RoAll.take n t)
theorem RoAll.drop : ∀ {vs : List V} {ds : List D} (n : Nat), RoAll K w O H vs ds → RoAll K w O H (vs.drop n) (ds.drop n)
  | _, _, 0, h => h
  | _, _, _ + 1, .nil => .nil
  | _, _, n + 1, .cons _ t => RoAll.drop n t
/-- the value of a name that is asked and forgotten: perhaps an owned list -/
def RoB (K : PySem.W.Frag) (w : World) (O : Addr → Prop) (H : Hp) (b : Bool) (v : V) (d : D) : Prop :=
  Ro K w O H v d ∨ (b = true ∧ ∃ a xs ds, v = .ref a ∧ d = .list ds ∧ H a = some (.lst xs) ∧ RoAll K w O H xs ds)
theorem RoB.no {v : V} {d : D} (h : RoB K w O H false v d) : Ro K w O H v d := by
  rcases h with h | ⟨e, _⟩
  · exact h
  · cases e
theorem RoB.same {b : Bool} {v : V} {d : D} (s : Same H H') (h : RoB K w O H b v d) : RoB K w O H' b v d := by
  rcases h with h | ⟨e, a, xs, ds, h1, h2, h3, h4⟩
  · exact .inl (h.same s)
  · exact .inr ⟨e, a, xs, ds, h1, h2, s _ _ h3, h4.same s⟩
/-! what a value's kind tells -/
theorem RoB.list {b : Bool} {v : V} {ds : List D} (h : RoB K w O H b v (.list ds)) : ∃ a xs, v = .ref a ∧ SqL K H a xs ∧ RoAll K w O H xs ds := by
  rcases h with h | ⟨_, a, xs, ds', h1, h2, h3, h4⟩
  · cases h with
    | lst h1 h2 h3 => exact ⟨_, _, rfl, .inl h1, h3⟩
    | kls h1 h3 => exact ⟨_, _, rfl, .inr h1, h3⟩
  · cases h2; exact ⟨a, xs, h1, .inl (.inl h3), h4⟩
theorem RoB.tup {b : Bool} {v : V} {ds : List D} (h : RoB K w O H b v (.tuple ds)) : ∃ a xs, v = .ref a ∧ SqT K H a xs ∧ RoAll K w O H xs ds := by
  rcases h with h | ⟨_, a, xs, ds', h1, h2, h3, h4⟩
  · cases h with
    | tup h1 h3 => exact ⟨_, _, rfl, h1, h3⟩
  · cases h2
theorem RoB.int {b : Bool} {v : V} {i : Int} (h : RoB K w O H b v (.int i)) : v = .int i := by
  rcases h with h | ⟨_, a, xs, ds', h1, h2, h3, h4⟩
  · cases h; rfl
  · cases h2
theorem RoB.bl {b : Bool} {v : V} {i : Bool} (h : RoB K w O H b v (.bool i)) : v = .bl i := by
  rcases h with h | ⟨_, a, xs, ds', h1, h2, h3, h4⟩
  · cases h; rfl
  · cases h2
theorem RoB.non {b : Bool} {v : V} (h : RoB K w O H b v .none) : v = .non := by
  rcases h with h | ⟨_, a, xs, ds', h1, h2, h3, h4⟩
  · cases h; rfl
  · cases h2
theorem RoB.str {b : Bool} {v : V} {x : Str} (h : RoB K w O H b v (.str x)) : v = .str x ∧ PyData.canLay0 (.str x) = true := by
  rcases h with h | ⟨_, a, xs, ds', h1, h2, h3, h4⟩
  · cases h with
    | str _ h => exact ⟨rfl, h⟩
  · cases h2
/-! to the layer's own data -/
mutual
theorem Ro.dp : ∀ {v : V} {d : D}, Ro K w O H v d → ∀ n, dle n d = true → Dp K H v d ∧ d.canLay0 = true
  | _, _, .non, _, _ => ⟨.non, rfl⟩
  | _, _, .bl b, _, _ => ⟨.bl b, rfl⟩
  | _, _, .int i, _, _ => ⟨.int i, rfl⟩
  | _, _, .str x h, _, _ => ⟨.str x, h⟩
  | _, _, .lst hr ho ha, 0, e => by cases e
  | _, _, .lst hr ho ha, n + 1, e => let ⟨p, q⟩ := RoAll.dp ha n e; ⟨.lst (.inl hr) p, q⟩
  | _, _, .kls hr ha, 0, e => by cases e
  | _, _, .kls hr ha, n + 1, e => let ⟨p, q⟩ := RoAll.dp ha n e; ⟨.lst (.inr hr) p, q⟩
  | _, _, .tup hr ha, 0, e => by cases e
  | _, _, .tup hr ha, n + 1, e => let ⟨p, q⟩ := RoAll.dp ha n e; ⟨.tup hr p, q⟩
  | _, _, .kdc _ _ _ _, 0, e => by cases e
  | _, _, .kdc _ _ _ _, n + 1, e => by cases e
  | _, _, .exc _ _ _ _, 0, e => by cases e
  | _, _, .exc _ _ _ _, n + 1, e => by cases e
theorem RoAll.dp : ∀ {vs : List V} {ds : List D}, RoAll K w O H vs ds → ∀ n, dles n ds = true → DpAll K H vs ds ∧ PyData.canLayAll0 ds = true
  | _, _, .nil, _, _ => ⟨.nil, rfl⟩
  | _, _, .cons h t, n, e => by
    rw [dles, Bool.and_eq_true] at e
    obtain ⟨p, q⟩ := Ro.dp h n e.1
    obtain ⟨p', q'⟩ := RoAll.dp t n e.2
    exact ⟨.cons p p', by rw [PyData.canLayAll0, q, q']; rfl⟩
end
theorem RoB.dp {b : Bool} {v : V} {d : D} (h : RoB K w O H b v d) (n : Nat) (e : dle n d = true) : Dp K H v d ∧ d.canLay0 = true := by
  rcases h with h | ⟨_, a, xs, ds, h1, h2, h3, h4⟩
  · exact h.dp n e
  · subst h1 h2
    cases n with
    | zero => cases e
    | succ n =>
      obtain ⟨p, q⟩ := RoAll.dp h4 n e
      exact ⟨.lst (.inl (.inl h3)) p, q⟩
end
mutual
theorem dle_depth : ∀ (n : Nat) (d : D), dle n d = true → d.depth ≤ n
  | 0, d, e => by cases d <;> first | exact Nat.le_refl 0 | (simp only [PyData.depth]; exact Nat.le_refl 0) | cases e
  | n + 1, .none, _ => by simp [PyData.depth]
  | n + 1, .bool _, _ => by simp [PyData.depth]
  | n + 1, .int _, _ => by simp [PyData.depth]
  | n + 1, .str _, _ => by simp [PyData.depth]
  | n + 1, .list xs, e => by
    have := dles_depth n xs e
    simp only [PyData.depth]; omega
  | n + 1, .tuple xs, e => by
    have := dles_depth n xs e
    simp only [PyData.depth]; omega
  | n + 1, .dict _, e => by cases e
theorem dles_depth : ∀ (n : Nat) (ds : List D), dles n ds = true → PyData.depthAll ds ≤ n
  | n, [], _ => by simp [PyData.depthAll]
  | n, d :: ds, e => by
    rw [dles, Bool.and_eq_true] at e
    have h1 := dle_depth n d e.1
    have h2 := dles_depth n ds e.2
    simp only [PyData.depthAll]; omega
end
theorem shaped_of {d : D} (h : d.canLay0 = true) (e : dle 60 d = true) : SeqAt.shaped d = true := by
  have := dle_depth 60 d e
  unfold SeqAt.shaped
  rw [h, decide_eq_true (by omega)]; rfl
end EV

set_option maxHeartbeats 4000000
namespace EV
open PySem PySem.Spec PyProof.Rows L2
theorem int_rmul_lst (a : Int) (t : Tok) (l : Addr) (items : Array Value) (n : Nat) (sl : Array (Option Value)) :
    Meets (Builtin.«int.__rmul__» ⟨[.int a t, .ref l], []⟩) (fun _ R s => s.heap.get? l = some { cls := .type "list", dict := none, data := .seq items n, slots := sl } ∧ R (.ok (.ret Value.notImplemented)) s) :=
  .of_wp fun prog w A R s h => by obtain ⟨hp, g, d, tk, os⟩ := s; obtain ⟨hl, h⟩ := h; wp_walk using wpAny_loadPart' hl; exact ⟨_, rfl, h⟩
theorem lst_mul (l : Addr) (items : Array Value) (n : Nat) (sl : Array (Option Value)) (x : Int) (u : Tok) (hc0 : ¬(!Builtin.List.listFitsIndex x) = true) (hc1 : ¬items.size * x.toNat > (2 ^ 63 - 1) / 8) (hc2 : ¬Builtin.List.listTooLong (items.size * x.toNat) = true)
    (hsz : (List.foldl (fun x1 x2 => x1 ++ x2) #[] (List.replicate (if items.isEmpty = true then 0 else x.toNat) items)).size ≤ sizeLine) :
    Meets (Builtin.«list.__mul__» ⟨[.ref l, .int x u], []⟩) (fun _ R s => s.heap.get? l = some { cls := .type "list", dict := none, data := .seq items n, slots := sl } ∧
      R (.ok (.ret (Value.ref s.heap.objs.size))) { s with heap := s.heap.push { cls := Value.type "list", data := Data.seq (List.foldl (fun x1 x2 => x1 ++ x2) #[] (List.replicate (if items.isEmpty = true then 0 else x.toNat) items)) }, toks := s.toks }) :=
  .of_wp fun prog w A R s h => by
    obtain ⟨hp, g, d, tk, os⟩ := s; obtain ⟨hl, h⟩ := h
    wp_walk using wpAny_loadPart' hl
    refine wpAny_ite_false (decide_eq_false (Nat.not_lt.mpr hsz)) ?_
    wp_walk using wpAny_loadPart' hl
    exact ⟨_, rfl, h⟩
theorem tup_mul1 (l : Addr) (items : Array Value) (n : Nat) (dd : Option Addr) (sl : Array (Option Value)) (u : Tok) :
    Meets (Builtin.«tuple.__mul__» ⟨[.ref l, .int 1 u], []⟩) (fun _ R s => s.heap.get? l = some { cls := .type "tuple", dict := dd, data := .seq items n, slots := sl } ∧ R (.ok (.ret (Value.ref l))) s) :=
  .of_wp fun prog w A R s h => by
    obtain ⟨hp, g, d, tk, os⟩ := s
    obtain ⟨hl, h⟩ := h
    have f1 := AutoSeq1.idx_int
    wp_walk using wpAny_loadPart' hl
    exact ⟨_, rfl, h⟩
theorem tup_mul0 (l : Addr) (items : Array Value) (n : Nat) (dd : Option Addr) (sl : Array (Option Value)) (u : Tok) (hne : items.isEmpty = false) :
    Meets (Builtin.«tuple.__mul__» ⟨[.ref l, .int 0 u], []⟩) (fun _ R s => s.heap.get? l = some { cls := .type "tuple", dict := dd, data := .seq items n, slots := sl } ∧ R (.ok (.ret (Value.ref s.heap.objs.size))) { s with heap := s.heap.push { cls := Value.type "tuple", data := Data.seq #[] }, toks := s.toks }) :=
  .of_wp fun prog w A R s h => by
    obtain ⟨hp, g, d, tk, os⟩ := s
    obtain ⟨hl, h⟩ := h
    have f1 := AutoSeq1.idx_int
    wp_walk using wpAny_loadPart' hl
    exact ⟨_, rfl, h⟩
section
variable {X : Cx}
theorem op_mulL : OpR X (binaryOp .Mult) (fun x y H Q => ∃ (l : Addr) (k : Int) (xs : List V), x = .ref l ∧ y = .int k ∧ SqL X.K H l xs ∧ 0 ≤ k ∧ k ≤ 1000 ∧ xs.length ≤ 1000 ∧ ∀ p, H p = none → Q (.ref p) (upd H p (.lst (List.replicate k.toNat xs).flatten))) := by
  intro pins s σ H x y v u Q I rx ry h
  obtain ⟨l, k, xs, rfl, rfl, hH, h0, h1, hz, q⟩ := h
  cases rx
  obtain ⟨t, rfl⟩ := ry
  obtain ⟨its, r, ⟨⟨c1, dd, d1, sl⟩, n, e, hc, hdd, hd⟩, _⟩ := I.list hH
  simp only at hc hd hdd
  subst hc hd hdd
  have hle : its.length = xs.length := r.length.symm
  have hm : its.length * k.toNat ≤ 1000 * 1000 := Nat.mul_le_mul (by omega) (by omega)
  have hcap : ¬ its.toArray.size * k.toNat > (2 ^ 63 - 1) / 8 := by rw [List.size_toArray]; omega
  have hfit : ¬ (!Builtin.List.listFitsIndex k) = true := by
    rw [fitsIndex_both (by omega) (by omega)]
    exact Bool.false_ne_true
  have hlong : ¬ Builtin.List.listTooLong (its.toArray.size * k.toNat) = true := by
    rw [notLongL (by rw [List.size_toArray, sizeLine_eq]; omega)]
    exact Bool.false_ne_true
  have hnew : List.foldl (fun x1 x2 => x1 ++ x2) #[] (List.replicate (if its.toArray.isEmpty = true then 0 else k.toNat) its.toArray) = (List.replicate k.toNat its).flatten.toArray := by
    rw [size_rep]
    cases its with
    | nil => simp
    | cons a r' => rw [if_neg (by simp)]
  have flen : (List.replicate k.toNat its).flatten.length ≤ sizeLine := by
    rw [PyProof.Rows.lm_len_rep_flat, sizeLine_eq, Nat.mul_comm]; omega
  refine wpAny_binaryOp_repeat_ref (T := "list") (U := "int") (by decide) ⟨_, e, rfl⟩ (fun s' => typeIs_int s' k t) noFill_list_mul F.fills_int_mul F.slot_int_rmul repeat_list F.slot_int_index.lookup
    (call_meets F.slot_int_rmul (typeIs_int s k t) F.entry_int_rmul (F.args_int_rmul_2 _ _) (int_rmul_lst k t l its.toArray n sl)
      ⟨e, rfl, ⟨_, e, rfl⟩, call_meets F.slot_list_mul ⟨_, e, rfl⟩ F.entry_list_mul (F.args_list_mul_2 _ _) (lst_mul l its.toArray n sl k t hfit hcap hlong (by rw [hnew, List.size_toArray]; exact flen)) ⟨e, ?_⟩⟩)
  rw [hnew]
  exact ⟨.ref _, _, I.lnew (t' := s.toks) (r.rep k.toNat) (by rw [PyProof.Rows.lm_len_rep_flat, ← hle, Nat.mul_comm]; rw [sizeLine_eq]; omega), rfl, q _ I.fresh⟩
theorem op_mulT : OpR X (binaryOp .Mult) (fun x y H Q => ∃ (l : Addr) (k : Int) (xs : List V), x = .ref l ∧ y = .int k ∧ SqT X.K H l xs ∧ xs ≠ [] ∧ 0 ≤ k ∧ k ≤ 1000 ∧ xs.length ≤ 1000 ∧ (k = 1 → Q (.ref l) H) ∧ (k ≠ 1 → ∀ p, H p = none → Q (.ref p) (upd H p (.tup (List.replicate k.toNat xs).flatten)))) := by
  intro pins s σ H x y v u Q I rx ry h
  obtain ⟨l, k, xs, rfl, rfl, hT, hne, h0, h1, hz, q1, q2⟩ := h
  by_cases hk : 2 ≤ k
  · exact op_repT pins s σ H _ _ v u Q I rx ry ⟨l, k, xs, rfl, rfl, hT, hne, hk, h1, hz, q2 (by omega)⟩
  · cases rx
    obtain ⟨t, rfl⟩ := ry
    obtain ⟨its, r, ⟨⟨cls, dd, data, sl⟩, ho, hc, n, hd⟩, hs⟩ := I.tuple hT
    simp only at hc hd
    subst hc hd
    have hi : its.toArray.isEmpty = false := by
      cases its with
      | nil => exact absurd (List.eq_nil_of_length_eq_zero (by rw [r.length]; rfl)) hne
      | cons a b => rfl
    have c : k = 0 ∨ k = 1 := by omega
    rcases c with rfl | rfl
    · refine wpAny_binaryOp_repeat_ref (T := "tuple") (U := "int") (by decide) ⟨_, ho, rfl⟩ (fun s' => typeIs_int s' 0 t) noFill_tuple_mul F.fills_int_mul F.slot_int_rmul repeat_tuple F.slot_int_index.lookup
        (call_meets F.slot_int_rmul (typeIs_int s 0 t) F.entry_int_rmul (F.args_int_rmul_2 _ _) (int_rmul_tuple 0 t l its.toArray n dd sl)
          ⟨ho, rfl, ⟨_, ho, rfl⟩, call_meets F.slot_tuple_mul ⟨_, ho, rfl⟩ F.entry_tuple_mul (F.args_tuple_mul_2 _ _) (tup_mul0 l its.toArray n dd sl t hi) ⟨ho, ?_⟩⟩)
      refine ⟨.ref s.heap.objs.size, _, I.laid (t' := s.toks) (o := .tup []) (fun b ob q => Heap.get?_push_of_some _ q) (Nat.le_refl _) ?_, rfl, q2 (by decide) _ (I.hok.fresh (Nat.le_refl _))⟩
      exact ⟨Nat.zero_le _, [], .nil, IsTup.new _ _⟩
    · refine wpAny_binaryOp_repeat_ref (T := "tuple") (U := "int") (by decide) ⟨_, ho, rfl⟩ (fun s' => typeIs_int s' 1 t) noFill_tuple_mul F.fills_int_mul F.slot_int_rmul repeat_tuple F.slot_int_index.lookup
        (call_meets F.slot_int_rmul (typeIs_int s 1 t) F.entry_int_rmul (F.args_int_rmul_2 _ _) (int_rmul_tuple 1 t l its.toArray n dd sl)
          ⟨ho, rfl, ⟨_, ho, rfl⟩, call_meets F.slot_tuple_mul ⟨_, ho, rfl⟩ F.entry_tuple_mul (F.args_tuple_mul_2 _ _) (tup_mul1 l its.toArray n dd sl t) ⟨ho, ?_⟩⟩)
      exact ⟨.ref l, H, I, rfl, q1 rfl⟩
end
theorem RoAll.rep {K : PySem.W.Frag} {w : World} {O : Addr → Prop} {H : Hp} {vs : List V} {ds : List D} (h : RoAll K w O H vs ds) : ∀ n, RoAll K w O H (List.replicate n vs).flatten (List.replicate n ds).flatten
  | 0 => .nil
  | n + 1 => by
    rw [List.replicate_succ, List.replicate_succ, List.flatten_cons, List.flatten_cons]
    exact h.app (RoAll.rep h n)
end EV

namespace EV
open PySem PySem.Spec PyProof.Rows L2

/-! ### operators by data -/
section
variable {X : Cx}
/-- what an operation on two data gives -/
def rOp (K : PySem.W.Frag) (w : World) (g : D → D → Option D) : R2 := fun x y H Q => ∃ O b dx dy d, OkO O H ∧ RoB K w O H b x dx ∧ RoB K w O H b y dy ∧ g dx dy = some d ∧ ∀ H' v, Same H H' → Ro K w O H' v d → Q v H'
theorem same_upd {H : Hp} {p : Addr} {o : HO} (h : H p = none) : Same H (upd H p o) := fun b u e => by rw [upd_ne (ne_of_none e h)]; exact e
theorem few_line : few ≤ sizeLine := by rw [sizeLine_eq]; decide
/-- list + list, locked ones and the module's too -/
def rCatL (K : PySem.W.Frag) : R2 := fun x y H Q => ∃ l b xs zs, x = .ref l ∧ y = .ref b ∧ SqL K H l xs ∧ SqL K H b zs ∧ xs.length + zs.length ≤ sizeLine ∧ ∀ p, H p = none → Q (.ref p) (upd H p (.lst (xs ++ zs)))
theorem op_catL : OpR X (binaryOp .Add) (rCatL X.K) := by
  intro pins s σ H x y v u Q I rx ry h
  obtain ⟨l, b, xs, zs, rfl, rfl, hH, hB, hz, q⟩ := h
  cases rx
  cases ry
  obtain ⟨its, r, ⟨⟨c1, dd, d1, sl⟩, n, e, hc, _, hd⟩, _⟩ := I.list hH
  obtain ⟨its2, r2, ⟨⟨c2, dd2, d2, sl2⟩, n2, e2, hc2, _, hd2⟩, _⟩ := I.list hB
  simp only at hc hd hc2 hd2
  subst hc hd hc2 hd2
  have hl := r.length
  have hl2 := r2.length
  refine concat_meets ⟨_, e, rfl⟩ ⟨_, e2, rfl⟩ noFill_list_add seq_list_add PySem.F.slot_list_add PySem.F.entry_list_add (PySem.F.args_list_add_2 _ _) (PyProof.Rows.list_addW l b its.toArray its2.toArray n n2 dd dd2 sl sl2 (by rw [List.size_toArray, List.size_toArray]; omega)) ⟨e, e2, ?_⟩
  have ea : its.toArray ++ its2.toArray = (its ++ its2).toArray := by simp
  rw [ea]
  exact ⟨.ref _, _, I.lnew (t' := s.toks) (r.append r2) (by rw [List.length_append]; omega), rfl, q _ I.fresh⟩
theorem small64_ok {i : Int} (h : small64 i = true) : -(2 ^ 64) < i ∧ i < 2 ^ 64 := by
  rw [small64, Bool.and_eq_true] at h
  exact ⟨of_decide_eq_true h.1, of_decide_eq_true h.2⟩
theorem cond_some {α : Type} {b : Bool} {x : Option α} {d : α} (h : cond b x none = some d) : b = true ∧ x = some d := by
  cases b with
  | true => exact ⟨rfl, h⟩
  | false => cases h
section
variable {K : PySem.W.Frag} {w : World} {O : Addr → Prop} {H : Hp}
theorem Ro.newL {p : Addr} {xs : List V} {ds : List D} (hO : OkO O H) (hp : H p = none) (h : RoAll K w O H xs ds) : Ro K w O (upd H p (.lst xs)) (.ref p) (.list ds) :=
  .lst (.inl upd_same) (hO.none hp) (h.same (same_upd hp))
theorem Ro.newT {p : Addr} {xs : List V} {ds : List D} (hp : H p = none) (h : RoAll K w O H xs ds) : Ro K w O (upd H p (.tup xs)) (.ref p) (.tuple ds) :=
  .tup (.inl (.inl upd_same)) (h.same (same_upd hp))
end
theorem op_binD (o : Operator) : OpR X (binaryOp o) (rOp X.K X.w (binD o)) := by
  intro pins s σ H x y v u Q I rx ry h
  obtain ⟨O, b, dx, dy, d, hO, hx, hy, e, q⟩ := h
  have qi : ∀ i : Int, d = .int i → Q (.int i) H := fun i ei => q H _ (Same.refl H) (by rw [ei]; exact .int i)
  unfold binD at e
  split at e
  · rename_i i j
    cases hx.int; cases hy.int
    exact op_add pins s σ H _ _ v u Q I rx ry ⟨i, j, rfl, rfl, qi _ (Option.some.inj e).symm⟩
  · rename_i i j
    cases hx.int; cases hy.int
    exact op_sub pins s σ H _ _ v u Q I rx ry ⟨i, j, rfl, rfl, qi _ (Option.some.inj e).symm⟩
  · rename_i i j
    cases hx.int; cases hy.int
    obtain ⟨c, e⟩ := cond_some e
    refine op_mul pins s σ H _ _ v u Q I rx ry ⟨i, j, rfl, rfl, ?_, qi _ (Option.some.inj e).symm⟩
    rcases Bool.or_eq_true_iff.mp c with c | c
    · exact .inl (small64_ok c)
    · exact .inr (small64_ok c)
  · rename_i i j
    cases hx.int; cases hy.int
    obtain ⟨c, e⟩ := cond_some e
    rw [Bool.and_eq_true] at c
    exact op_fdiv pins s σ H _ _ v u Q I rx ry ⟨i, j, rfl, rfl, ⟨of_decide_eq_true c.1, of_decide_eq_true c.2⟩, qi _ (Option.some.inj e).symm⟩
  · rename_i i j
    cases hx.int; cases hy.int
    obtain ⟨c, e⟩ := cond_some e
    exact op_mod pins s σ H _ _ v u Q I rx ry ⟨i, j, rfl, rfl, of_decide_eq_true c, qi _ (Option.some.inj e).symm⟩
  · rename_i i j
    cases hx.int; cases hy.int
    obtain ⟨c, e⟩ := cond_some e
    rw [Bool.and_eq_true, Bool.and_eq_true] at c
    exact op_pow pins s σ H _ _ v u Q I rx ry ⟨i, j, rfl, rfl, ⟨of_decide_eq_true c.1, of_decide_eq_true c.2.1, of_decide_eq_true c.2.2⟩, qi _ (Option.some.inj e).symm⟩
  · rename_i xs ys
    obtain ⟨a, vs, rfl, h1, h2⟩ := hx.list
    obtain ⟨a', vs', rfl, h1', h2'⟩ := hy.list
    obtain ⟨c, e⟩ := cond_some e
    have c' : xs.length + ys.length ≤ few := of_decide_eq_true c
    have hf := few_line
    refine op_catL pins s σ H _ _ v u Q I rx ry ⟨a, a', vs, vs', rfl, rfl, h1, h1', by rw [h2.length, h2'.length]; omega, fun p hp => ?_⟩
    exact q _ _ (same_upd hp) (by rw [← Option.some.inj e]; exact Ro.newL hO hp (h2.app h2'))
  · rename_i xs ys
    obtain ⟨a, vs, rfl, h1, h2⟩ := hx.tup
    obtain ⟨a', vs', rfl, h1', h2'⟩ := hy.tup
    obtain ⟨c, e⟩ := cond_some e
    have c' : xs.length + ys.length ≤ few := of_decide_eq_true c
    have hf := few_line
    have e := Option.some.inj e
    refine op_catA pins s σ H _ _ v u Q I rx ry ⟨a, a', vs, vs', rfl, rfl, h1, h1', by rw [h2.length, h2'.length]; omega, fun z => ?_, fun z z' => ?_, fun z z' p hp => ?_⟩
    · subst z
      cases h2
      exact q _ _ (Same.refl H) (by rw [← e]; exact .tup h1' h2')
    · subst z'
      cases h2'
      exact q _ _ (Same.refl H) (by rw [← e, List.append_nil]; exact .tup h1 h2)
    · exact q _ _ (same_upd hp) (by rw [← e]; exact Ro.newT hp (h2.app h2'))
  · rename_i xs j
    obtain ⟨a, vs, rfl, h1, h2⟩ := hx.list
    cases hy.int
    obtain ⟨c, e⟩ := cond_some e
    simp only [mulOk, Bool.and_eq_true, decide_eq_true_eq] at c
    refine op_mulL pins s σ H _ _ v u Q I rx ry ⟨a, j, vs, rfl, rfl, h1, c.1, c.2.1, by rw [h2.length]; exact c.2.2, fun p hp => ?_⟩
    exact q _ _ (same_upd hp) (by rw [← Option.some.inj e]; exact Ro.newL hO hp (h2.rep _))
  · rename_i xs j
    obtain ⟨a, vs, rfl, h1, h2⟩ := hx.tup
    cases hy.int
    obtain ⟨c, e⟩ := cond_some e
    simp only [mulOk, Bool.and_eq_true, decide_eq_true_eq] at c
    obtain ⟨⟨c1, c2, c3⟩, c4⟩ := c
    have e := Option.some.inj e
    refine op_mulT pins s σ H _ _ v u Q I rx ry ⟨a, j, vs, rfl, rfl, h1, fun z => ?_, c1, c2, by rw [h2.length]; exact c3, fun z => ?_, fun z p hp => ?_⟩
    · subst z
      cases h2
      simp at c4
    · subst z
      refine q _ _ (Same.refl H) (by rw [← e]; show Ro X.K X.w O H (.ref a) (.tuple (List.replicate 1 xs).flatten); rw [show (List.replicate 1 xs).flatten = xs by simp]; exact .tup h1 h2)
    · exact q _ _ (same_upd hp) (by rw [← e]; exact Ro.newT hp (h2.rep _))
  · cases e

theorem add_list {dx dy : D} {l : List D} (h : binD .Add dx dy = some (.list l)) : ∃ xs ys, dx = .list xs ∧ dy = .list ys := by
  cases dx <;> cases dy <;> first | exact ⟨_, _, rfl, rfl⟩ | (cases h; done) | (obtain ⟨_, h⟩ := cond_some (show cond _ _ none = some (PyData.list l) from h); cases h)
/-- a sum, a list anew -/
def rAddF (K : PySem.W.Frag) (w : World) : R2 := fun x y H Q => ∃ O b dx dy d, OkO O H ∧ RoB K w O H b x dx ∧ RoB K w O H b y dy ∧ binD .Add dx dy = some d ∧
  (∀ H' v, Same H H' → Ro K w O H' v d → (∀ l, d ≠ .list l) → Q v H') ∧ ∀ l p ys, d = .list l → H p = none → RoAll K w O H ys l → Q (.ref p) (upd H p (.lst ys))
theorem op_addF : OpR X (binaryOp .Add) (rAddF X.K X.w) := by
  intro pins s σ H x y v u Q I rx ry h
  obtain ⟨O, b, dx, dy, d, hO, hx, hy, e, q1, q2⟩ := h
  by_cases hl : ∃ xs ys, dx = .list xs ∧ dy = .list ys
  · obtain ⟨xs, ys, rfl, rfl⟩ := hl
    obtain ⟨a, vs, rfl, h1, h2⟩ := hx.list
    obtain ⟨a', vs', rfl, h1', h2'⟩ := hy.list
    obtain ⟨c, e⟩ := cond_some (show cond _ _ none = some d from e)
    have c' : xs.length + ys.length ≤ few := of_decide_eq_true c
    have hf := few_line
    exact op_catL pins s σ H _ _ v u Q I rx ry ⟨a, a', vs, vs', rfl, rfl, h1, h1', by rw [h2.length, h2'.length]; omega, fun p hp => q2 _ p _ (Option.some.inj e).symm hp (h2.app h2')⟩
  · exact op_binD .Add pins s σ H _ _ v u Q I rx ry ⟨O, b, dx, dy, d, hO, hx, hy, e, fun H' v s r => q1 H' v s r fun l z => hl (add_list (z ▸ e))⟩

/-! ### comparisons -/
def rCmp (K : PySem.W.Frag) (w : World) (g : D → D → Option Bool) : R2 := fun x y H Q => ∃ O b dx dy d, RoB K w O H b x dx ∧ RoB K w O H b y dy ∧ g dx dy = some d ∧ Q (.bl d) H
theorem eqD_ok {x y : D} {d : Bool} (h : eqD x y = some d) : dle 60 x = true ∧ dle 60 y = true ∧ PyData.eqv x y = d := by
  obtain ⟨c, e⟩ := cond_some h
  rw [Bool.and_eq_true] at c
  exact ⟨c.1, c.2, Option.some.inj e⟩
theorem op_inTD (hu : X.A.units + 65 < cLine) {pins : List (Addr × Obj)} {s : Shared} {σ : L2.St} {H : Hp} {x y : V} {v u : Value} {Q : VK} {d : D} {ds : List D} (I : Inv X pins σ H s) (rx : RelV x v) (ry : RelV y u)
    (hd : Dp X.K H x d) (he : Dp X.K H y (.tuple ds)) (sd : SeqAt.shaped d = true) (se : SeqAt.shaped (.tuple ds) = true) (q : Q (.bl (ds.any fun z => PyData.eqv z d)) H) : wpAny (model X.prog X.w) X.A (compareOp .In v u) (EP X pins σ Q) X.xe s := by
  obtain ⟨as, r1⟩ := Dp.reads I d x v hd rx
  obtain ⟨bs, r2⟩ := Dp.reads I (.tuple ds) y u he ry
  exact SeqAt.in_tuple_reads r2 r1 (SeqAt.canLay_of_shaped se) (SeqAt.canLay_of_shaped sd) (room_in_shaped sd hu) ⟨.bl _, H, I, rfl, q⟩
theorem op_notInTD (hu : X.A.units + 65 < cLine) {pins : List (Addr × Obj)} {s : Shared} {σ : L2.St} {H : Hp} {x y : V} {v u : Value} {Q : VK} {d : D} {ds : List D} (I : Inv X pins σ H s) (rx : RelV x v) (ry : RelV y u)
    (hd : Dp X.K H x d) (he : Dp X.K H y (.tuple ds)) (sd : SeqAt.shaped d = true) (se : SeqAt.shaped (.tuple ds) = true) (q : Q (.bl (!ds.any fun z => PyData.eqv z d)) H) : wpAny (model X.prog X.w) X.A (compareOp .NotIn v u) (EP X pins σ Q) X.xe s := by
  obtain ⟨as, r1⟩ := Dp.reads I d x v hd rx
  obtain ⟨bs, r2⟩ := Dp.reads I (.tuple ds) y u he ry
  exact SeqAt.notIn_tuple_reads r2 r1 (SeqAt.canLay_of_shaped se) (SeqAt.canLay_of_shaped sd) (room_in_shaped sd hu) ⟨.bl _, H, I, rfl, q⟩

theorem kdc_some {K : PySem.W.Frag} {w : World} {O : Addr → Prop} {H : Hp} {z : Str} {d : D} : ∀ {ps : List (Str × V)} {ds : List D}, RoAll K w O H (ps.map (·.2)) ds → dget ((ps.map fun p => PyData.str p.1).zip ds) z = some d → ∃ p ∈ ps, p.1 = z ∧ Ro K w O H p.2 d
  | [], _, _, e => by cases e
  | p :: ps, _, .cons h t, e => by
    simp only [List.map_cons, List.zip_cons_cons, dget] at e
    by_cases hz : p.1 = z
    · rw [decide_eq_true hz] at e
      cases e
      exact ⟨p, List.mem_cons_self, hz, h⟩
    · rw [decide_eq_false hz] at e
      obtain ⟨q, h1, h2, h3⟩ := kdc_some t e
      exact ⟨q, List.mem_cons_of_mem _ h1, h2, h3⟩
theorem kdc_none {K : PySem.W.Frag} {w : World} {O : Addr → Prop} {H : Hp} {z : Str} : ∀ {ps : List (Str × V)} {ds : List D}, RoAll K w O H (ps.map (·.2)) ds → dget ((ps.map fun p => PyData.str p.1).zip ds) z = none → z ∉ ps.map (·.1)
  | [], _, _, _ => by simp
  | p :: ps, _, .cons h t, e => by
    simp only [List.map_cons, List.zip_cons_cons, dget] at e
    by_cases hz : p.1 = z
    · rw [decide_eq_true hz] at e
      cases e
    · rw [decide_eq_false hz] at e
      have := kdc_none t e
      simp only [List.map_cons, List.mem_cons, not_or]
      exact ⟨fun q => hz q.symm, this⟩
theorem RoB.kd {K : PySem.W.Frag} {w : World} {O : Addr → Prop} {H : Hp} {b : Bool} {v : V} {kvs : List (D × D)} (h : RoB K w O H b v (.dict kvs)) (ht : dtab kvs = true) : ∃ a es n, v = .ref a ∧ KDict K w a es n ∧
    (∀ z d, dget kvs z = some d → ∃ u v, PySem.W.nsIn K a z = some (some u) ∧ RelV v u ∧ Ro K w O H v d) ∧ ∀ z, dget kvs z = none → PySem.W.nsIn K a z = some none := by
  rcases h with h | ⟨_, a, xs, ds', h1, h2, h3, h4⟩
  · cases h with
    | kdc h1 h2 h3 h4 =>
      refine ⟨_, _, _, rfl, h1, fun z d e => ?_, fun z e => h3 z (kdc_none h4 e)⟩
      obtain ⟨p, hp, hz, hr⟩ := kdc_some h4 e
      obtain ⟨u, e1, e2⟩ := h2 p hp
      rw [hz] at e1
      exact ⟨u, p.2, e1, e2, hr⟩
    | exc h1 h2 h3 h4 => cases ht
  · cases h2
theorem RoB.isNone {K : PySem.W.Frag} {w : World} {O : Addr → Prop} {H : Hp} {b : Bool} {v : V} {d : D} (h : RoB K w O H b v d) : decide (v = V.non) = EV.isNone d := by
  rcases h with h | ⟨_, a, xs, ds', h1, h2, h3, h4⟩
  · cases h <;> simp [EV.isNone, excD]
  · subst h1 h2; simp [EV.isNone]
theorem cmpI_ok {K : PySem.W.Frag} {w : World} {O : Addr → Prop} {H : Hp} {b : Bool} {x y : V} {dx dy : D} {f : Int → Int → Bool} {d : Bool} (hx : RoB K w O H b x dx) (hy : RoB K w O H b y dy) (e : cmpI dx dy f = some d) : ∃ i j, x = .int i ∧ y = .int j ∧ d = f i j := by
  unfold cmpI at e
  split at e
  · exact ⟨_, _, hx.int, hy.int, (Option.some.inj e).symm⟩
  · cases e
theorem isB_ok {K : PySem.W.Frag} {w : World} {O : Addr → Prop} {H : Hp} {b : Bool} {x y : V} {dx dy : D} {d : Bool} (hx : RoB K w O H b x dx) (hy : RoB K w O H b y dy) (e : isB dx dy = some d) : ∃ i j, x = .bl i ∧ y = .bl j ∧ d = (i == j) := by
  unfold isB at e
  split at e
  · exact ⟨_, _, hx.bl, hy.bl, (Option.some.inj e).symm⟩
  · cases e
theorem bl_beq {i j : Bool} : decide (i = j) = (i == j) := by cases i <;> cases j <;> rfl
theorem op_cmpD (o : CmpOp) (hu : X.A.units + 65 < cLine) : OpR X (compareOp o) (rCmp X.K X.w (cmpD o)) := by
  intro pins s σ H x y v u Q I rx ry h
  obtain ⟨O, b, dx, dy, d, hx, hy, e, q⟩ := h
  have kints : ∀ f : Int → Int → Bool, cmpI dx dy f = some d → ∃ i j, x = .int i ∧ y = .int j ∧ d = f i j := fun f e => cmpI_ok hx hy e
  have ino : ∀ {neg : Bool}, inD dx dy = some (cond neg (!d) d) → (neg = false → o = .In) → (neg = true → o = .NotIn) → wpAny (model X.prog X.w) X.A (compareOp o v u) (EP X pins σ Q) X.xe s := fun {neg} e o1 o2 => by
    rename_i e0
    clear e0 kints
    unfold inD at e
    split at e
    · rename_i ys
      obtain ⟨c, e⟩ := cond_some e
      rw [Bool.and_eq_true] at c
      obtain ⟨p1, p2⟩ := hx.dp 60 c.1
      obtain ⟨p3, p4⟩ := hy.dp 60 c.2
      have e := Option.some.inj e
      cases neg with
      | false =>
        rw [o1 rfl]
        exact op_inD hu pins s σ H _ _ v u Q I rx ry ⟨_, _, p1, p3, shaped_of p2 c.1, shaped_of p4 c.2, by rw [e]; exact q⟩
      | true =>
        rw [o2 rfl]
        exact op_notInD hu pins s σ H _ _ v u Q I rx ry ⟨_, _, p1, p3, shaped_of p2 c.1, shaped_of p4 c.2, by rw [e]; simpa using q⟩
    · rename_i ys
      obtain ⟨c, e⟩ := cond_some e
      rw [Bool.and_eq_true] at c
      obtain ⟨p1, p2⟩ := hx.dp 60 c.1
      obtain ⟨p3, p4⟩ := hy.dp 60 c.2
      have e := Option.some.inj e
      cases neg with
      | false =>
        rw [o1 rfl]
        exact op_inTD hu I rx ry p1 p3 (shaped_of p2 c.1) (shaped_of p4 c.2) (by rw [e]; exact q)
      | true =>
        rw [o2 rfl]
        exact op_notInTD hu I rx ry p1 p3 (shaped_of p2 c.1) (shaped_of p4 c.2) (by rw [e]; simpa using q)
    · rename_i kvs
      split at e
      · rename_i z
        obtain ⟨rfl, _⟩ := hx.str
        obtain ⟨ht, e⟩ := cond_some e
        obtain ⟨a, es, n, rfl, hk, k1, k2⟩ := hy.kd ht
        have e := Option.some.inj e
        have key : ∃ r : Option Value, PySem.W.nsIn X.K a z = some r ∧ r.isSome = (dget kvs z).isSome := by
          cases hd : dget kvs z with
          | none => exact ⟨none, k2 z hd, rfl⟩
          | some d => obtain ⟨u', v', h1, _⟩ := k1 z d hd; exact ⟨some u', h1, rfl⟩
        obtain ⟨r, h1, h2⟩ := key
        cases neg with
        | false =>
          rw [o1 rfl]
          refine op_in_kd hk pins s σ H _ _ v u Q I rx ry ⟨z, r, rfl, rfl, h1, ?_⟩
          rw [h2, e]; exact q
        | true =>
          rw [o2 rfl]
          refine op_notIn_kd hk pins s σ H _ _ v u Q I rx ry ⟨z, r, rfl, rfl, h1, ?_⟩
          rw [h2, e]; simpa using q
      · cases e
    · cases e
  cases o with
  | Eq =>
    obtain ⟨c1, c2, e⟩ := eqD_ok (show eqD dx dy = some d from e)
    obtain ⟨p1, p2⟩ := hx.dp 60 c1
    obtain ⟨p3, p4⟩ := hy.dp 60 c2
    exact op_eqD (by omega) pins s σ H _ _ v u Q I rx ry ⟨_, _, p1, p3, shaped_of p2 c1, shaped_of p4 c2, by rw [e]; exact q⟩
  | NotEq =>
    obtain ⟨d', e', e2⟩ := Option.map_eq_some_iff.mp (show (eqD dx dy).map (!·) = some d from e)
    obtain ⟨c1, c2, e⟩ := eqD_ok e'
    obtain ⟨p1, p2⟩ := hx.dp 60 c1
    obtain ⟨p3, p4⟩ := hy.dp 60 c2
    exact op_neD (by omega) pins s σ H _ _ v u Q I rx ry ⟨_, _, p1, p3, shaped_of p2 c1, shaped_of p4 c2, by rw [e, e2]; exact q⟩
  | Lt =>
    obtain ⟨i, j, rfl, rfl, rfl⟩ := kints _ e
    exact op_lt pins s σ H _ _ v u Q I rx ry ⟨i, j, rfl, rfl, q⟩
  | LtE =>
    obtain ⟨i, j, rfl, rfl, rfl⟩ := kints _ e
    exact op_le pins s σ H _ _ v u Q I rx ry ⟨i, j, rfl, rfl, q⟩
  | Gt =>
    obtain ⟨i, j, rfl, rfl, rfl⟩ := kints _ e
    exact op_gt pins s σ H _ _ v u Q I rx ry ⟨i, j, rfl, rfl, q⟩
  | GtE =>
    obtain ⟨i, j, rfl, rfl, rfl⟩ := kints _ e
    exact op_ge pins s σ H _ _ v u Q I rx ry ⟨i, j, rfl, rfl, q⟩
  | In => exact ino (neg := false) e (fun _ => rfl) (fun z => nomatch z)
  | NotIn =>
    obtain ⟨d', e', e2⟩ := Option.map_eq_some_iff.mp (show (inD dx dy).map (!·) = some d from e)
    exact ino (neg := true) (by rw [e', ← e2]; simp) (fun z => nomatch z) (fun _ => rfl)
  | Is =>
    have gen : isB dx dy = some d → wpAny (model X.prog X.w) X.A (compareOp .Is v u) (EP X pins σ Q) X.xe s := fun e => by
      obtain ⟨i, j, rfl, rfl, rfl⟩ := isB_ok hx hy e
      exact op_is_bl pins s σ H _ _ v u Q I rx ry ⟨i, j, rfl, rfl, by rw [bl_beq]; exact q⟩
    cases dy with
    | none =>
      cases hy.non
      cases ry
      have e : isNone dx = d := Option.some.inj e
      exact is_none_gen ⟨.bl _, H, I, by rw [rx.none_iff]; rfl, by rw [hx.isNone, e]; exact q⟩
    | _ => exact gen e
  | IsNot =>
    have gen : (isB dx dy).map (!·) = some d → wpAny (model X.prog X.w) X.A (compareOp .IsNot v u) (EP X pins σ Q) X.xe s := fun e => by
      obtain ⟨d', e', e2⟩ := Option.map_eq_some_iff.mp e
      obtain ⟨i, j, rfl, rfl, rfl⟩ := isB_ok hx hy e'
      exact op_isnot_bl pins s σ H _ _ v u Q I rx ry ⟨i, j, rfl, rfl, by rw [bl_beq, e2]; exact q⟩
    cases dy with
    | none =>
      cases hy.non
      cases ry
      have e : (!isNone dx) = d := Option.some.inj e
      exact isnot_none_gen ⟨.bl _, H, I, by rw [rx.none_iff]; rfl, by rw [hx.isNone, e]; exact q⟩
    | _ => exact gen e
end
end EV

namespace EV
open PySem PySem.Spec PyProof.Rows L2

def SlOk (K : PySem.W.Frag) (w : World) (O Ow : Addr → Prop) (H : Hp) (s : Sl) (o : Option (Option V)) : Prop :=
  match s with
  | .un => True
  | .sh d => ∃ v, o = some (some v) ∧ Ro K w O H v d
  | .ow l => ∃ a xs, o = some (some (.ref a)) ∧ H a = some (.lst xs) ∧ (O a ∧ Ow a) ∧ RoAll K w O H xs l
/-- the slots hold what the evaluator has -/
def Fr (K : PySem.W.Frag) (w : World) (O Ow : Addr → Prop) (es : List Sl) (σ : L2.St) (H : Hp) : Prop := ∀ (i : Nat) (s : Sl), es[i]? = some s → SlOk K w O Ow H s σ[i]?
section
variable {K : PySem.W.Frag} {w : World} {O O' Ow : Addr → Prop} {es : List Sl} {σ : L2.St} {H H' : Hp}
theorem SlOk.same {s : Sl} {o : Option (Option V)} (s0 : Same H H') (h : SlOk K w O Ow H s o) : SlOk K w O Ow H' s o := by
  cases s with
  | un => trivial
  | sh d => obtain ⟨v, e, r⟩ := h; exact ⟨v, e, r.same s0⟩
  | ow l => obtain ⟨a, xs, e, h1, h0, h2⟩ := h; exact ⟨a, xs, e, s0 _ _ h1, h0, h2.same s0⟩
theorem Fr.same (s0 : Same H H') (h : Fr K w O Ow es σ H) : Fr K w O Ow es σ H' := fun i s e => (h i s e).same s0
end
theorem _root_.L2.PE.imp {X : Cx} {e : Expr} {t t' : TE} (h : PE X e t) (hi : ∀ σ H Q, t' σ H Q → t σ H Q) : PE X e t' := ⟨fun pins s σ H Q I hq => h.run pins s σ H Q I (hi _ _ _ hq)⟩
theorem _root_.L2.PT.imp {X : Cx} {e : Expr} {t t' : TT} (h : PT X e t) (hi : ∀ σ H Q, t' σ H Q → t σ H Q) : PT X e t' := ⟨fun pins s σ H Q I hq => h.run pins s σ H Q I (hi _ _ _ hq)⟩
theorem _root_.L2.PA.imp {X : Cx} {e : List Expr} {t t' : TA} (h : PA X e t) (hi : ∀ σ H Q, t' σ H Q → t σ H Q) : PA X e t' := ⟨fun pos pins s σ H Q I hq => h.run pos pins s σ H Q I (hi _ _ _ hq)⟩

inductive RoBs (K : PySem.W.Frag) (w : World) (O : Addr → Prop) (H : Hp) (b : Bool) : List V → List D → Prop
  | nil : RoBs K w O H b [] []
  | cons {v : V} {vs : List V} {d : D} {ds : List D} : RoB K w O H b v d → RoBs K w O H b vs ds → RoBs K w O H b (v :: vs) (d :: ds)
section
variable {K : PySem.W.Frag} {w : World} {O : Addr → Prop} {H H' : Hp} {b : Bool}
theorem RoBs.same : ∀ {vs : List V} {ds : List D}, Same H H' → RoBs K w O H b vs ds → RoBs K w O H' b vs ds
  | _, _, _, .nil => .nil
  | _, _, s, .cons h t => .cons (h.same s) (RoBs.same s t)
theorem RoBs.all : ∀ {vs : List V} {ds : List D}, RoBs K w O H false vs ds → RoAll K w O H vs ds
  | _, _, .nil => .nil
  | _, _, .cons h t => .cons h.no (RoBs.all t)
theorem RoBs.app : ∀ {vs ws : List V} {ds es : List D}, RoBs K w O H b vs ds → RoBs K w O H b ws es → RoBs K w O H b (vs ++ ws) (ds ++ es)
  | _, _, _, _, .nil, h => h
  | _, _, _, _, .cons h t, g => .cons h (RoBs.app t g)
theorem RoAll.bs : ∀ {vs : List V} {ds : List D}, RoAll K w O H vs ds → RoBs K w O H b vs ds
  | _, _, .nil => .nil
  | _, _, .cons h t => .cons (.inl h) (RoAll.bs t)
theorem RoBs.length : ∀ {vs : List V} {ds : List D}, RoBs K w O H b vs ds → vs.length = ds.length
  | _, _, .nil => rfl
  | _, _, .cons _ t => by simp [RoBs.length t]
end

/-- the readings by the evaluator: of an expression, a test, arguments -/
def tE (K : PySem.W.Frag) (w : World) (b : Bool) (f : List Sl → Option D) : TE := fun σ H Q => ∃ O Ow es d, OkO O H ∧ Fr K w O Ow es σ H ∧ f es = some d ∧ ∀ H' v, Same H H' → RoB K w O H' b v d → Q v H'
def tT (K : PySem.W.Frag) (w : World) (f : List Sl → Option Bool) : TT := fun σ H Q => ∃ O Ow es d, OkO O H ∧ Fr K w O Ow es σ H ∧ f es = some d ∧ ∀ H', Same H H' → Q d H'
def tA (K : PySem.W.Frag) (w : World) (b : Bool) (f : List Sl → Option (List D)) : TA := fun σ H Q => ∃ O Ow es ds, OkO O H ∧ Fr K w O Ow es σ H ∧ f es = some ds ∧ ∀ H' vs, Same H H' → RoBs K w O H' b vs ds → Q vs H'
abbrev SE (X : Cx) (b : Bool) (e : Expr) (f : List Sl → Option D) : Prop := PE X e (tE X.K X.w b f)
abbrev ST (X : Cx) (e : Expr) (f : List Sl → Option Bool) : Prop := PT X e (tT X.K X.w f)
abbrev SA (X : Cx) (b : Bool) (e : List Expr) (f : List Sl → Option (List D)) : Prop := PA X e (tA X.K X.w b f)
theorem bind_some {α β : Type} {x : Option α} {f : α → Option β} {d : β} (h : x.bind f = some d) : ∃ a, x = some a ∧ f a = some d := Option.bind_eq_some_iff.mp h

section
variable {X : Cx} {b : Bool} {e e1 e2 e3 : Expr} {es : List Expr} {pos : Pos} {f f1 f2 f3 : List Sl → Option D} {g g1 g2 : List Sl → Option Bool} {fs : List Sl → Option (List D)}
theorem SE.weak (h : SE X false e f) : SE X true e f := h.imp fun σ H Q ⟨O, Ow, es, d, hO, F, e, q⟩ => ⟨O, Ow, es, d, hO, F, e, fun H' v s r => q H' v s (.inl r.no)⟩
theorem SE.eqf {f' : List Sl → Option D} (h : SE X b e f) (he : ∀ es d, f' es = some d → f es = some d) : SE X b e f' := h.imp fun σ H Q ⟨O, Ow, es, d, hO, F, e, q⟩ => ⟨O, Ow, es, d, hO, F, he _ _ e, q⟩
theorem ST.eqf {f' : List Sl → Option Bool} (h : ST X e g) (he : ∀ es d, f' es = some d → g es = some d) : ST X e f' := h.imp fun σ H Q ⟨O, Ow, es, d, hO, F, e, q⟩ => ⟨O, Ow, es, d, hO, F, he _ _ e, q⟩
theorem SA.eqf {f' : List Sl → Option (List D)} (h : SA X b es fs) (he : ∀ es d, f' es = some d → fs es = some d) : SA X b es f' := h.imp fun σ H Q ⟨O, Ow, es, d, hO, F, e, q⟩ => ⟨O, Ow, es, d, hO, F, he _ _ e, q⟩

/-! ### names, constants -/
theorem se_var {i : Nat} {x : Str} (hN : X.N[i]? = some x) (hv : Vis X.env.scope x) (hd : (x == ("__debug__" : Str)) = false) (hcd : (x == ("__classdict__" : Str)) = false) : SE X b (.Name x pos) fun es => (es[i]?).bind (rd b) := by
  refine (pe_var hN hv hd hcd).imp fun σ H Q ⟨O, Ow, es, d, hO, F, e, q⟩ => ?_
  obtain ⟨s, h1, h2⟩ := bind_some e
  have hs := F i s h1
  cases s with
  | un => cases b <;> cases h2
  | sh d' =>
    obtain ⟨v, hv, r⟩ := hs
    have : d' = d := by cases b <;> exact Option.some.inj h2
    subst this
    exact ⟨v, hv, q H v (Same.refl H) (.inl r)⟩
  | ow l =>
    cases b with
    | false => cases h2
    | true =>
      obtain ⟨a, xs, hv, h3, h0, h4⟩ := hs
      have : PyData.list l = d := Option.some.inj h2
      exact ⟨_, hv, q H _ (Same.refl H) (.inr ⟨rfl, a, xs, l, rfl, this.symm, h3, h4⟩)⟩
theorem se_const {k : Const} {j : Nat} (h : ∀ s, k = .str s → PyData.canLay0 (.str s) = true) : SE X b (.Constant k j pos) fun _ => constD k := by
  have key : ∀ {v : V}, PE X (.Constant k j pos) (tC v) → (∀ O H d, constD k = some d → Ro X.K X.w O H v d) → SE X b (.Constant k j pos) fun _ => constD k := fun hp hr =>
    hp.imp fun σ H Q ⟨O, Ow, es, d, hO, F, e, q⟩ => q H _ (Same.refl H) (.inl (hr O H d e))
  cases k with
  | none => exact key pe_non fun O H d e => by cases e; exact .non
  | bool z => exact key pe_bl fun O H d e => by cases e; exact .bl z
  | int i => exact key pe_int fun O H d e => by cases e; exact .int i
  | str s => exact key pe_str fun O H d e => by cases e; exact .str s (h s rfl)
  | _ => exact ⟨fun _ _ _ _ _ _ ⟨O, Ow, es, d, hO, F, e, q⟩ => by cases e⟩
/-- a module's constant -/
def GOk (X : Cx) (x : Str) (o : Option D) : Prop := ∀ d, o = some d → ∃ v u, X.mg x = some u ∧ RelV v u ∧ ∀ O H, Ro X.K X.w O H v d
theorem se_glob {x : Str} {o : Option D} (hg : Gl X x) (h : GOk X x o) (hd : (x == ("__debug__" : Str)) = false) : SE X b (.Name x pos) fun _ => o := by
  cases o with
  | none => exact ⟨fun _ _ _ _ _ _ ⟨O, Ow, es, d, hO, F, e, q⟩ => by cases e⟩
  | some d =>
    obtain ⟨v, u, h1, h2, h3⟩ := h d rfl
    exact (pe_glob hg h1 h2 hd).imp fun σ H Q ⟨O, Ow, es, d', hO, F, e, q⟩ => by cases e; exact q H v (Same.refl H) (.inl (h3 O H))

/-! ### arguments, displays -/
theorem starEach_cons (h : ∀ e' p, e ≠ .Starred e' p) (env : Env) : starEach (e :: es) env = (false, eval e env) :: starEach es env := by
  cases e <;> first | rfl | exact absurd rfl (h _ _)
theorem sa_nil : SA X b [] fun _ => some [] := pa_nil.imp fun σ H Q ⟨O, Ow, es, ds, hO, F, e, q⟩ => by cases e; exact q H [] (Same.refl H) .nil
theorem sa_cons (hn : ∀ e' p, e ≠ .Starred e' p) (h : SE X b e f) (hr : SA X b es fs) : SA X b (e :: es) fun σ => (f σ).bind fun d => (fs σ).bind fun ys => some (d :: ys) := by
  refine (pa_cons h hr (starEach_cons hn _)).imp fun σ H Q ⟨O, Ow, es, ds, hO, F, e, q⟩ => ?_
  obtain ⟨d, e1, e⟩ := bind_some e
  obtain ⟨ys, e2, e⟩ := bind_some e
  cases e
  refine ⟨O, Ow, es, d, hO, F, e1, fun H1 v s1 r1 => ⟨O, Ow, es, ys, hO.same s1, F.same s1, e2, fun H2 vs s2 r2 => ?_⟩⟩
  exact q H2 _ (s1.trans s2) (.cons (r1.same s2) r2)
theorem sa_star {p : Pos} (h : SE X true e f) (hr : SA X b es fs) : SA X b (.Starred e p :: es) fun σ => (f σ).bind fun d => (items d).bind fun xs => (fs σ).bind fun ys => some (xs ++ ys) := by
  refine (StX.pa_star (p := p) h hr rfl).imp fun σ H Q ⟨O, Ow, es, ds, hO, F, e, q⟩ => ?_
  obtain ⟨d, e1, e⟩ := bind_some e
  obtain ⟨xs, e3, e⟩ := bind_some e
  obtain ⟨ys, e2, e⟩ := bind_some e
  cases e
  refine ⟨O, Ow, es, d, hO, F, e1, fun H1 v s1 r1 => ?_⟩
  have fin : ∀ a vs, v = .ref a → (SqT X.K H1 a vs ∨ SqL X.K H1 a vs) → RoAll X.K X.w O H1 vs xs → ∃ p xs, v = V.ref p ∧ (SqT X.K H1 p xs ∨ SqL X.K H1 p xs) ∧ tA X.K X.w b fs σ H1 fun ys H2 => Q (xs ++ ys) H2 := fun a vs ha hq hr =>
    ⟨a, vs, ha, hq, O, Ow, es, ys, hO.same s1, F.same s1, e2, fun H2 ws s2 r2 => q H2 _ (s1.trans s2) ((hr.same s2).bs.app r2)⟩
  cases d with
  | list l =>
    cases e3
    obtain ⟨a, vs, h1, h2, h3⟩ := r1.list
    exact fin a vs h1 (.inr h2) h3
  | tuple l =>
    cases e3
    obtain ⟨a, vs, h1, h2, h3⟩ := r1.tup
    exact fin a vs h1 (.inl h2) h3
  | _ => cases e3
theorem se_tuple {k : Nat} (h : SA X false es fs) : SE X b (.Tuple es k pos) fun σ => (fs σ).bind fun ds => cond (decide (ds.length ≤ few)) (some (.tuple ds)) none := by
  refine (pe_tup h).imp fun σ H Q ⟨O, Ow, es, d, hO, F, e, q⟩ => ?_
  obtain ⟨ds, e1, e⟩ := bind_some e
  obtain ⟨c, e⟩ := cond_some e
  cases e
  have hl : ds.length ≤ few := of_decide_eq_true c
  have hf := few_line
  refine ⟨O, Ow, es, ds, hO, F, e1, fun H1 vs s1 r1 => ⟨by rw [r1.length]; omega, fun p hp => ?_⟩⟩
  exact q _ _ (s1.trans (same_upd hp)) (.inl (Ro.newT hp r1.all))
/-- a fresh list -/
def tF (K : PySem.W.Frag) (w : World) (f : List Sl → Option D) : TE := fun σ H Q => ∃ O Ow es d, OkO O H ∧ Fr K w O Ow es σ H ∧ f es = some d ∧
  ∀ H' p xs ds, Same H H' → H p = none → H' p = some (.lst xs) → d = .list ds → RoAll K w (fun a => O a ∨ a = p) H' xs ds → Q (.ref p) H'
abbrev SF (X : Cx) (e : Expr) (f : List Sl → Option D) : Prop := PE X e (tF X.K X.w f)
theorem SF.se (h : SF X e f) : SE X b e f := h.imp fun σ H Q ⟨O, Ow, es, d, hO, F, e, q⟩ => ⟨O, Ow, es, d, hO, F, e, fun H' p xs ds s hp h1 h2 h3 => q H' _ s (.inl (by
  subst h2
  exact .lst (.inl h1) (hO.none hp) (h3.less fun a z => .inl z)))⟩
theorem sf_list (h : SA X false es fs) : SF X (.List es pos) fun σ => (fs σ).bind fun ds => cond (decide (ds.length ≤ few)) (some (.list ds)) none := by
  refine (pe_lst h).imp fun σ H Q ⟨O, Ow, es, d, hO, F, e, q⟩ => ?_
  obtain ⟨ds, e1, e⟩ := bind_some e
  obtain ⟨c, e⟩ := cond_some e
  cases e
  have hl : ds.length ≤ few := of_decide_eq_true c
  have hf := few_line
  refine ⟨O, Ow, es, ds, hO, F, e1, fun H1 vs s1 r1 => ⟨by rw [r1.length]; omega, fun p hp => ?_⟩⟩
  have hp0 : H p = none := s1.free hp
  exact q _ p vs ds (s1.trans (same_upd hp)) hp0 upd_same rfl (r1.all.keeps (Same.keeps (same_upd hp)) fun a z => z.imp id fun e => by rw [e]; exact hp)

/-! ### operators -/
theorem se_bin {o : Operator} (h1 : SE X true e1 f1) (h2 : SE X true e2 f2) : SE X b (.BinOp e1 o e2 pos) fun σ => (f1 σ).bind fun x => (f2 σ).bind fun y => binD o x y := by
  refine (pe_op (op_binD o) h1 h2).imp fun σ H Q ⟨O, Ow, es, d, hO, F, e, q⟩ => ?_
  obtain ⟨x, e1, e⟩ := bind_some e
  obtain ⟨y, e2, e⟩ := bind_some e
  refine ⟨O, Ow, es, x, hO, F, e1, fun H1 v s1 r1 => ⟨O, Ow, es, y, hO.same s1, F.same s1, e2, fun H2 u s2 r2 => ?_⟩⟩
  exact ⟨O, true, x, y, d, (hO.same s1).same s2, r1.same s2, r2, e, fun H3 z s3 r3 => q H3 z ((s1.trans s2).trans s3) (.inl r3)⟩
theorem se_neg (h1 : SE X true e1 f1) : SE X b (.UnaryOp .USub e1 pos) fun σ => (f1 σ).bind fun d => match d with | .int i => some (.int (-i)) | _ => none := by
  refine (pe_un un_neg h1).imp fun σ H Q ⟨O, Ow, es, d, hO, F, e, q⟩ => ?_
  obtain ⟨x, e1, e⟩ := bind_some e
  refine ⟨O, Ow, es, x, hO, F, e1, fun H1 v s1 r1 => ?_⟩
  cases x with
  | int i =>
    cases e
    cases r1.int
    exact ⟨i, rfl, q H1 _ s1 (.inl (.int _))⟩
  | _ => cases e
theorem mark_of {op : CmpOp} (h : ∀ a k p, e2 ≠ .Set a k p) : behindInMarks op e2 = false := by
  cases e2 <;> first | rfl | exact absurd rfl (h _ _ _)
theorem cmp_read {o : CmpOp} {σ : L2.St} {H : Hp} {Q : VK} (h : tE X.K X.w b (fun σ => (f1 σ).bind fun x => (f2 σ).bind fun y => (cmpD o x y).map .bool) σ H Q) : tOp (rCmp X.K X.w (cmpD o)) (tE X.K X.w true f1) (tE X.K X.w true f2) σ H Q := by
  obtain ⟨O, Ow, es, d, hO, F, e, q⟩ := h
  obtain ⟨x, e1, e⟩ := bind_some e
  obtain ⟨y, e2, e⟩ := bind_some e
  obtain ⟨k, e3, e⟩ := Option.map_eq_some_iff.mp e
  subst e
  refine ⟨O, Ow, es, x, hO, F, e1, fun H1 v s1 r1 => ⟨O, Ow, es, y, hO.same s1, F.same s1, e2, fun H2 u s2 r2 => ?_⟩⟩
  exact ⟨O, true, x, y, k, r1.same s2, r2, e3, q H2 _ (s1.trans s2) (.inl (.bl k))⟩
theorem se_cmp {o : CmpOp} (hu : X.A.units + 65 < cLine) (hm : ∀ a k p, e2 ≠ .Set a k p) (h1 : SE X true e1 f1) (h2 : SE X true e2 f2) :
    SE X b (.Compare e1 [o] [e2] pos) fun σ => (f1 σ).bind fun x => (f2 σ).bind fun y => (cmpD o x y).map .bool :=
  (pe_cmpR (op_cmpD o hu) h1 h2 (mark_of hm)).imp fun σ H Q h => cmp_read h
theorem st_cmp {o : CmpOp} (hu : X.A.units + 65 < cLine) (hm : ∀ a k p, e2 ≠ .Set a k p) (h1 : SE X true e1 f1) (h2 : SE X true e2 f2) :
    ST X (.Compare e1 [o] [e2] pos) fun σ => (f1 σ).bind fun x => (f2 σ).bind fun y => cmpD o x y := by
  refine (pt_cmpR (op_cmpD o hu) h1 h2 (mark_of hm)).imp fun σ H Q ⟨O, Ow, es, k, hO, F, e, q⟩ => ?_
  refine cmp_read (b := true) ⟨O, Ow, es, .bool k, hO, F, ?_, fun H' v s r => ⟨k, r.bl, q H' s⟩⟩
  obtain ⟨x, e1, e⟩ := bind_some e
  obtain ⟨y, e2, e⟩ := bind_some e
  show (f1 es).bind _ = _
  rw [e1, Option.bind_some, e2, Option.bind_some, e]; rfl
end
end EV

namespace EV
open PySem PySem.Spec PyProof.Rows L2
section
variable {K : PySem.W.Frag} {w : World} {O : Addr → Prop} {H : Hp} {b : Bool}
theorem RoB.tru {v : V} {d : D} {k : Bool} (h : RoB K w O H b v d) (e : truD d = some k) : TruV K v H k := by
  cases d with
  | none => cases h.non; exact (Option.some.inj e).symm
  | bool x => cases h.bl; exact (Option.some.inj e).symm
  | int i => cases h.int; exact (Option.some.inj e).symm
  | list xs =>
    obtain ⟨a, vs, rfl, h1, h2⟩ := h.list
    refine .inl ⟨vs, h1, ?_⟩
    rw [← Option.some.inj e]
    cases h2 <;> rfl
  | tuple xs =>
    obtain ⟨a, vs, rfl, h1, h2⟩ := h.tup
    refine .inr (.inl ⟨vs, h1, ?_⟩)
    rw [← Option.some.inj e]
    cases h2 <;> rfl
  | _ => cases e
end
section
variable {X : Cx} {b : Bool} {e e1 e2 e3 : Expr} {es : List Expr} {pos : Pos} {f f1 f2 f3 : List Sl → Option D} {g g1 g2 g3 : List Sl → Option Bool} {fs : List Sl → Option (List D)}
theorem se_not (h : SE X true e f) : SE X b (.UnaryOp .Not e pos) fun σ => (f σ).bind fun d => (truD d).map fun k => .bool !k := by
  refine (pe_notT h).imp fun σ H Q ⟨O, Ow, es, d, hO, F, e, q⟩ => ?_
  obtain ⟨x, e1, e⟩ := bind_some e
  obtain ⟨k, e2, e⟩ := Option.map_eq_some_iff.mp e
  subst e
  exact ⟨O, Ow, es, x, hO, F, e1, fun H1 v s1 r1 => ⟨k, r1.tru e2, q H1 _ s1 (.inl (.bl _))⟩⟩
theorem st_not (h : ST X e g) : ST X (.UnaryOp .Not e pos) fun σ => (g σ).map (!·) := by
  refine (pt_not h).imp fun σ H Q ⟨O, Ow, es, d, hO, F, e, q⟩ => ?_
  obtain ⟨k, e1, e⟩ := Option.map_eq_some_iff.mp e
  subst e
  exact ⟨O, Ow, es, k, hO, F, e1, fun H1 s1 => q H1 s1⟩
theorem st_val (h : SE X true e f) (he : ∀ whole, isTrue e X.env whole = (do let v ← whole; standAt e.pos; holding [v] (truthy v))) : ST X e fun σ => (f σ).bind truD := by
  refine (pt_truth h he).imp fun σ H Q ⟨O, Ow, es, d, hO, F, e, q⟩ => ?_
  obtain ⟨x, e1, e⟩ := bind_some e
  exact ⟨O, Ow, es, x, hO, F, e1, fun H1 v s1 r1 => ⟨d, r1.tru e, q H1 s1⟩⟩
theorem st_ifExp (ht : ST X e1 g1) (h2 : ST X e2 g2) (h3 : ST X e3 g3) : ST X (.IfExp e1 e2 e3 pos) fun σ => (g1 σ).bind fun k => cond k (g2 σ) (g3 σ) := by
  refine ⟨fun pins s σ H Q I ⟨O, Ow, es, d, hO, F, e, q⟩ => ?_⟩
  obtain ⟨k, e1, e⟩ := bind_some e
  refine isTrue_IfExp (thn (ht.run pins s σ H (fun c H1 => c = k ∧ Same H H1) I ⟨O, Ow, es, k, hO, F, e1, fun H1 s1 => ⟨rfl, s1⟩⟩) fun c s1 ⟨H1, I1, ec, s0⟩ => ?_)
  subst ec
  cases c with
  | true => exact h2.run pins s1 σ H1 Q I1 ⟨O, Ow, es, d, hO.same s0, F.same s0, e, fun H2 s2 => q H2 (s0.trans s2)⟩
  | false => exact h3.run pins s1 σ H1 Q I1 ⟨O, Ow, es, d, hO.same s0, F.same s0, e, fun H2 s2 => q H2 (s0.trans s2)⟩
theorem se_ifExp (ht : ST X e1 g1) (h2 : SE X b e2 f2) (h3 : SE X b e3 f3) : SE X b (.IfExp e1 e2 e3 pos) fun σ => (g1 σ).bind fun k => cond k (f2 σ) (f3 σ) := by
  refine (pe_ifExp ht h2 h3).imp fun σ H Q ⟨O, Ow, es, d, hO, F, e, q⟩ => ?_
  obtain ⟨k, e1, e⟩ := bind_some e
  refine ⟨O, Ow, es, k, hO, F, e1, fun H1 s1 => ?_⟩
  cases k with
  | true => exact ⟨O, Ow, es, d, hO.same s1, F.same s1, e, fun H2 v s2 r2 => q H2 v (s1.trans s2) r2⟩
  | false => exact ⟨O, Ow, es, d, hO.same s1, F.same s1, e, fun H2 v s2 r2 => q H2 v (s1.trans s2) r2⟩
theorem se_and1 (h : SE X b e f) {op : BoolOp} : SE X b (.BoolOp op [e] pos) f := pe_one h
theorem se_and (h : SE X b e1 f1) (h2 : SE X b (.BoolOp .And (e2 :: es) pos) f2) : SE X b (.BoolOp .And (e1 :: e2 :: es) pos) fun σ => (f1 σ).bind fun d => (truD d).bind fun k => cond k (f2 σ) (some d) := by
  refine (pe_andT h h2).imp fun σ H Q ⟨O, Ow, es, d, hO, F, e, q⟩ => ?_
  obtain ⟨x, e1, e⟩ := bind_some e
  obtain ⟨k, e2, e⟩ := bind_some e
  refine ⟨O, Ow, es, x, hO, F, e1, fun H1 v s1 r1 => ⟨k, r1.tru e2, ?_⟩⟩
  cases k with
  | true => exact ⟨O, Ow, es, d, hO.same s1, F.same s1, e, fun H2 v s2 r2 => q H2 v (s1.trans s2) r2⟩
  | false => cases e; exact q H1 v s1 r1
theorem se_or (h : SE X b e1 f1) (h2 : SE X b (.BoolOp .Or (e2 :: es) pos) f2) : SE X b (.BoolOp .Or (e1 :: e2 :: es) pos) fun σ => (f1 σ).bind fun d => (truD d).bind fun k => cond k (some d) (f2 σ) := by
  refine (pe_orT h h2).imp fun σ H Q ⟨O, Ow, es, d, hO, F, e, q⟩ => ?_
  obtain ⟨x, e1, e⟩ := bind_some e
  obtain ⟨k, e2, e⟩ := bind_some e
  refine ⟨O, Ow, es, x, hO, F, e1, fun H1 v s1 r1 => ⟨k, r1.tru e2, ?_⟩⟩
  cases k with
  | true => cases e; exact q H1 v s1 r1
  | false => exact ⟨O, Ow, es, d, hO.same s1, F.same s1, e, fun H2 v s2 r2 => q H2 v (s1.trans s2) r2⟩
/-- tests by and, or, whatever the whole is -/
abbrev SW (X : Cx) (e : Expr) (f : List Sl → Option Bool) : Prop := PW X e (tT X.K X.w f)
theorem _root_.L2.PW.imp {X : Cx} {e : Expr} {t t' : TT} (h : PW X e t) (hi : ∀ σ H Q, t' σ H Q → t σ H Q) : PW X e t' := ⟨fun wh pins s σ H Q I hq => h.run wh pins s σ H Q I (hi _ _ _ hq)⟩
theorem sw_and1 (h : ST X e g) : SW X (.BoolOp .And [e] pos) g := pw_and1 h
theorem sw_or1 (h : ST X e g) : SW X (.BoolOp .Or [e] pos) g := pw_or1 h
theorem sw_and (h : ST X e1 g1) (h2 : SW X (.BoolOp .And (e2 :: es) pos) g2) : SW X (.BoolOp .And (e1 :: e2 :: es) pos) fun σ => (g1 σ).bind fun k => cond k (g2 σ) (some false) := by
  refine (pw_and h h2).imp fun σ H Q ⟨O, Ow, es, d, hO, F, e, q⟩ => ?_
  obtain ⟨k, e1, e⟩ := bind_some e
  refine ⟨O, Ow, es, k, hO, F, e1, fun H1 s1 => ?_⟩
  cases k with
  | true => exact ⟨O, Ow, es, d, hO.same s1, F.same s1, e, fun H2 s2 => q H2 (s1.trans s2)⟩
  | false => cases e; exact q H1 s1
theorem sw_or (h : ST X e1 g1) (h2 : SW X (.BoolOp .Or (e2 :: es) pos) g2) : SW X (.BoolOp .Or (e1 :: e2 :: es) pos) fun σ => (g1 σ).bind fun k => cond k (some true) (g2 σ) := by
  refine (pw_or h h2).imp fun σ H Q ⟨O, Ow, es, d, hO, F, e, q⟩ => ?_
  obtain ⟨k, e1, e⟩ := bind_some e
  refine ⟨O, Ow, es, k, hO, F, e1, fun H1 s1 => ?_⟩
  cases k with
  | true => cases e; exact q H1 s1
  | false => exact ⟨O, Ow, es, d, hO.same s1, F.same s1, e, fun H2 s2 => q H2 (s1.trans s2)⟩
theorem se_chain {o o' : CmpOp} (hu : X.A.units + 65 < cLine) (hm : lastMarks [o, o'] [e2, e3] = false) (h1 : SE X true e1 f1) (h2 : SE X true e2 f2) (h3 : SE X true e3 f3) :
    SE X b (.Compare e1 [o, o'] [e2, e3] pos) fun σ => (f1 σ).bind fun x => (f2 σ).bind fun y => (cmpD o x y).bind fun k => cond k ((f3 σ).bind fun z => (cmpD o' y z).map .bool) (some (.bool false)) := by
  refine (pe_chain (op_cmpD o hu) (op_cmpD o' hu) h1 h2 h3 hm).imp fun σ H Q ⟨O, Ow, es, d, hO, F, e, q⟩ => ?_
  obtain ⟨x, e1, e⟩ := bind_some e
  obtain ⟨y, e2, e⟩ := bind_some e
  obtain ⟨k, e3, e⟩ := bind_some e
  refine ⟨O, Ow, es, x, hO, F, e1, fun H1 v s1 r1 => ⟨O, Ow, es, y, hO.same s1, F.same s1, e2, fun H2 u s2 r2 => ⟨O, true, x, y, k, r1.same s2, r2, e3, k, rfl, ?_⟩⟩⟩
  cases k with
  | true =>
    obtain ⟨z, e4, e⟩ := bind_some e
    obtain ⟨k', e5, e⟩ := Option.map_eq_some_iff.mp e
    subst e
    exact ⟨O, Ow, es, z, (hO.same s1).same s2, (F.same s1).same s2, e4, fun H3 t s3 r3 => ⟨O, true, y, z, k', r2.same s3, r3, e5, q H3 _ ((s1.trans s2).trans s3) (.inl (.bl _))⟩⟩
  | false =>
    cases e
    exact q H2 _ (s1.trans s2) (.inl (.bl _))
theorem st_chain {o o' : CmpOp} (hu : X.A.units + 65 < cLine) (hm : lastMarks [o, o'] [e2, e3] = false) (h1 : SE X true e1 f1) (h2 : SE X true e2 f2) (h3 : SE X true e3 f3) :
    ST X (.Compare e1 [o, o'] [e2, e3] pos) fun σ => (f1 σ).bind fun x => (f2 σ).bind fun y => (cmpD o x y).bind fun k => cond k ((f3 σ).bind fun z => cmpD o' y z) (some false) := by
  refine (pt_chain (op_cmpD o hu) (op_cmpD o' hu) h1 h2 h3 hm).imp fun σ H Q ⟨O, Ow, es, d, hO, F, e, q⟩ => ?_
  obtain ⟨x, e1, e⟩ := bind_some e
  obtain ⟨y, e2, e⟩ := bind_some e
  obtain ⟨k, e3, e⟩ := bind_some e
  refine ⟨O, Ow, es, x, hO, F, e1, fun H1 v s1 r1 => ⟨O, Ow, es, y, hO.same s1, F.same s1, e2, fun H2 u s2 r2 => ⟨O, true, x, y, k, r1.same s2, r2, e3, k, rfl, ?_⟩⟩⟩
  cases k with
  | true =>
    obtain ⟨z, e4, e⟩ := bind_some e
    exact ⟨O, Ow, es, z, (hO.same s1).same s2, (F.same s1).same s2, e4, fun H3 t s3 r3 => ⟨O, true, y, z, d, r2.same s3, r3, e, d, rfl, q H3 ((s1.trans s2).trans s3)⟩⟩
  | false =>
    cases e
    exact ⟨false, rfl, q H2 (s1.trans s2)⟩

/-! ### subscripts -/
theorem RoAll.atI {K : PySem.W.Frag} {w : World} {O : Addr → Prop} {H : Hp} {vs : List V} {ds : List D} {i : Int} {d : D} (h : RoAll K w O H vs ds) (e : atI ds i = some d) : ∃ v, atI vs i = some v ∧ Ro K w O H v d := by
  unfold L2.atI at e ⊢
  rw [h.length]
  obtain ⟨j, e1, e2⟩ := bind_some e
  rw [e1]
  exact h.get e2
theorem ix_D : IxR X (rOp X.K X.w ixD) := by
  intro value slice pins s σ H x y v u Q I rx ry ⟨O, b, dx, dy, d, hO, hx, hy, e, q⟩ hs
  unfold ixD at e
  split at e
  · obtain ⟨a, vs, rfl, h1, h2⟩ := hx.list
    cases hy.int
    obtain ⟨z, h3, h4⟩ := h2.atI e
    exact ix_list value slice pins s σ H _ _ v u Q I rx ry ⟨a, vs, _, z, rfl, rfl, h1, h3, q H z (Same.refl H) h4⟩ hs
  · obtain ⟨a, vs, rfl, h1, h2⟩ := hx.tup
    cases hy.int
    obtain ⟨z, h3, h4⟩ := h2.atI e
    exact ix_tup value slice pins s σ H _ _ v u Q I rx ry ⟨a, vs, _, z, rfl, rfl, h1, h3, q H z (Same.refl H) h4⟩ hs
  · obtain ⟨rfl, _⟩ := hy.str
    obtain ⟨ht, e⟩ := cond_some e
    obtain ⟨a, es, n, rfl, hk, k1, k2⟩ := hx.kd ht
    obtain ⟨u', v', h1, h2, h3⟩ := k1 _ _ e
    exact ix_kdict value slice pins s σ H _ _ v u Q I rx ry ⟨a, _, v', rfl, rfl, ⟨es, n, u', hk.at_, hk.lit, h1, h2⟩, q H v' (Same.refl H) h3⟩ hs
  · cases e
theorem plainIx_of (h : ∀ a b c d, e ≠ .Slice a b c d) : PlainIx e := by
  intro o i
  cases e <;> first | rfl | exact absurd rfl (h _ _ _ _)
theorem se_ix (hs : ∀ a b c d, e2 ≠ .Slice a b c d) (h1 : SE X true e1 f1) (h2 : SE X true e2 f2) : SE X b (.Subscript e1 e2 pos) fun σ => (f1 σ).bind fun x => (f2 σ).bind fun y => ixD x y := by
  refine (pe_ix ix_D h1 h2 (plainIx_of hs)).imp fun σ H Q ⟨O, Ow, es, d, hO, F, e, q⟩ => ?_
  obtain ⟨x, e1, e⟩ := bind_some e
  obtain ⟨y, e2, e⟩ := bind_some e
  refine ⟨O, Ow, es, x, hO, F, e1, fun H1 v s1 r1 => ⟨O, Ow, es, y, hO.same s1, F.same s1, e2, fun H2 u s2 r2 => ?_⟩⟩
  exact ⟨O, true, x, y, d, (hO.same s1).same s2, r1.same s2, r2, e, fun H3 z s3 r3 => q H3 z ((s1.trans s2).trans s3) (.inl r3)⟩
/-! slices -/
def rSl (K : PySem.W.Frag) (w : World) : V → Option Int → Option Int → Hp → VK → Prop := fun x lo hi H Q => ∃ O b dx d, OkO O H ∧ RoB K w O H b x dx ∧ slD dx lo hi = some d ∧ ∀ H' v, Same H H' → Ro K w O H' v d → Q v H'
theorem cut_ro {K : PySem.W.Frag} {w : World} {O : Addr → Prop} {H : Hp} {vs : List V} {ds : List D} (lo hi : Option Int) (h : RoAll K w O H vs ds) : RoAll K w O H (cutV vs lo hi) (cut ds lo hi) := by
  unfold cutV cut
  rw [h.length]
  exact (h.drop _).take _
theorem sl_D : SlR X (rSl X.K X.w) := by
  intro pins s σ H x v vl vu lo hi sl Q I rx hs pl pu ⟨O, b, dx, d, hO, hx, e, q⟩
  cases dx with
  | list ds =>
    obtain ⟨a, vs, rfl, h1, h2⟩ := hx.list
    cases e
    exact sl_list pins s σ H _ v vl vu lo hi sl Q I rx hs pl pu ⟨a, vs, rfl, h1, fun p hp => q _ _ (same_upd hp) (Ro.newL hO hp (cut_ro lo hi h2))⟩
  | tuple ds =>
    obtain ⟨a, vs, rfl, h1, h2⟩ := hx.tup
    cases e
    refine sl_tupA pins s σ H _ v vl vu lo hi sl Q I rx hs pl pu ⟨a, vs, rfl, h1, fun z => ?_, fun _ p hp => q _ _ (same_upd hp) (Ro.newT hp (cut_ro lo hi h2))⟩
    have e : cut ds lo hi = ds := by
      rw [h2.length] at z
      unfold cut
      rw [z.1, z.2]
      simp
    rw [e] at q
    exact q H _ (Same.refl H) (.tup h1 h2)
  | _ => cases e
def partF (f : Option (List Sl → Option D)) : List Sl → Option (Option Int) := fun σ => match f with
  | none => some none
  | some f => (f σ).bind fun d => match d with | .int i => some (some i) | _ => none
def tO (K : PySem.W.Frag) (w : World) (f : List Sl → Option (Option Int)) : TO := fun σ H Q => ∃ O Ow es d, OkO O H ∧ Fr K w O Ow es σ H ∧ f es = some d ∧ ∀ H', Same H H' → Q d H'
abbrev SO (X : Cx) (e : Option Expr) (f : List Sl → Option (Option Int)) : Prop := PO X e (tO X.K X.w f)
theorem _root_.L2.PO.imp {X : Cx} {e : Option Expr} {t t' : TO} (h : PO X e t) (hi : ∀ σ H Q, t' σ H Q → t σ H Q) : PO X e t' := ⟨fun pins s σ H Q I hq => h.run pins s σ H Q I (hi _ _ _ hq)⟩
theorem so_none : SO X none fun _ => some none := po_none.imp fun σ H Q ⟨O, Ow, es, d, hO, F, e, q⟩ => by cases e; exact q H (Same.refl H)
theorem so_some (h : SE X true e f) : SO X (some e) fun σ => (f σ).bind fun d => match d with | .int i => some (some i) | _ => none := by
  refine (po_some h).imp fun σ H Q ⟨O, Ow, es, d, hO, F, e, q⟩ => ?_
  obtain ⟨x, e1, e⟩ := bind_some e
  refine ⟨O, Ow, es, x, hO, F, e1, fun H1 v s1 r1 => ?_⟩
  cases x with
  | int i => cases e; exact ⟨i, r1.int, q H1 s1⟩
  | _ => cases e
theorem se_slice {lo hi : Option Expr} {fl fh : List Sl → Option (Option Int)} {p2 : Pos} (h : SE X true e f) (hl : SO X lo fl) (hh : SO X hi fh) :
    SE X b (.Subscript e (.Slice lo hi none p2) pos) fun σ => (f σ).bind fun d => (fl σ).bind fun l => (fh σ).bind fun h => slD d l h := by
  refine (pe_slice sl_D h hl hh).imp fun σ H Q ⟨O, Ow, es, d, hO, F, e, q⟩ => ?_
  obtain ⟨x, e1, e⟩ := bind_some e
  obtain ⟨l, e2, e⟩ := bind_some e
  obtain ⟨u, e3, e⟩ := bind_some e
  refine ⟨O, Ow, es, x, hO, F, e1, fun H1 v s1 r1 => ⟨O, Ow, es, l, hO.same s1, F.same s1, e2, fun H2 s2 => ⟨O, Ow, es, u, (hO.same s1).same s2, (F.same s1).same s2, e3, fun H3 s3 => ?_⟩⟩⟩
  exact ⟨O, true, x, d, ((hO.same s1).same s2).same s3, (r1.same s2).same s3, e, fun H4 z s4 r4 => q H4 z (((s1.trans s2).trans s3).trans s4) (.inl r4)⟩
end
end EV

/-! calls below which nothing is being shown: the library's contract of a def with one word more on the stack -/
namespace EV
open PySem PySem.Spec PyProof.Rows L2
structure FnG (P : Program) (w : World) (K : PySem.W.Frag) (mg : Str → Option Value) (base : Heap) (k : Nat) (f : Addr) (fd : FuncData) (ps : List Str) (sp : Sp) : Prop where
  len : ∀ vs H Q E, sp vs H Q E → vs.length = ps.length
  run : ∀ (A : Around) (outer : List Env) (s : Shared) (H : Hp) (args : Args) (us : List Value) (vs : List V) (Q : VK) (E : XK), Room k A → A.guards = some [] → Env0 P w K mg base A outer s H →
    BindsTo s fd args (ps.zip us) → Vals vs us → sp vs H Q E → codeAny (model P w) A (.call (.ref f) args) (CR CX0 outer P w H s Q E) s
section
variable {X : Cx} {k : Nat} {f : Addr} {fd : FuncData} {ps : List Str} {sp : Sp} {x : Str} {p pos : Pos} {e : Expr} {es : List Expr} {t : TA}
theorem pe_callG (F : FnG X.prog X.w X.K X.mg X.base k f fd ps sp) (hr : Room k X.A) (hgd : X.A.guards = some []) (hg : Gl X x) (hm : X.mg x = some (.ref f)) (hk : PySem.W.keepIn X.K (.ref f) = true) (hb : Binds X.K fd ps [])
    (ha : PA X (e :: es) t) (hdb : (x == ("__debug__" : Str)) = false) (he : starEach (e :: es) X.env = (false, eval e X.env) :: starEach es X.env) (hpl : (backTo pos (starEach es X.env)).any (·.1) = false) :
    PE X (.Call (.Name x p) (e :: es) [] pos) (tCall sp [] E0 t) := by
  refine ⟨fun pins s σ H Q I h => wpAny_Call_Name_kw (ld_glob I hg hm ?_ hdb)⟩
  refine PySem.W.callWith_K (h₀ := X.base) I.ok.mod.kin hk (thn (ha.run pos pins s σ H _ I h) fun us s1 ⟨vs, H1, J, r, q⟩ => ⟨J.kIn, ?_⟩) he hpl
  have q' : sp vs H1 Q E0 := by
    have z : sp (vs ++ []) H1 Q E0 := q
    rwa [List.append_nil] at z
  have hl : us.length = ps.length := r.length.symm.trans (F.len _ _ _ _ q')
  have hb' : BindsTo s1 fd ⟨us, []⟩ (ps.zip us) := by
    have := hb s1 us J.kIn (by rw [List.append_nil]; exact hl)
    rwa [List.append_nil] at this
  refine wpAny_call (codeAny_mono (F.run X.A X.stack s1 H1 ⟨us, []⟩ us vs Q E0 hr hgd J.env0 hb' r q') fun z s' hz => ?_)
  match z, hz with
  | .error _, hz => exact False.elim hz
  | .ok (.ret u), hz => exact J.after hz
  | .ok .next, hz => exact False.elim hz
  | .ok .brk, hz => exact False.elim hz
  | .ok .cont, hz => exact False.elim hz
end
section
variable {P : Program} {w : World} {K : PySem.W.Frag} {mg : Str → Option Value} {base : Heap}
theorem Fun.okG {x qual : Str} {st : Stmt} {f : Addr} {fd : FuncData} {N ps : List Str} {k : Nat} {sp : Sp} (F : Fun K x qual st f fd) (S : FnScope N ps (defScope st)) (len : ∀ vs H Q E, sp vs H Q E → vs.length = ps.length)
    (hbody : ∀ (cdv : Value) (A : Around) (outer : List Env) (s : Shared) (H : Hp) (vs : List V) (Q : VK) (E : XK), Room k (A.deeper (envOfC qual (defScope st) s.heap.objs.size f cdv)) → A.guards = some [] → sp vs H Q E →
      ∃ t, PSs (cxOf CX0 P w K mg base N qual (defScope st) f cdv A outer s H E).nox (defBody st) t ∧ t { nx := fun _ H' => Q .non H', rt := Q } (L2.start N vs) H) : FnG P w K mg base (k + 1) f fd ps sp := by
  obtain ⟨oc, od, kV, doc, pm, an, cdv, ct, osl, rfl, lk, hcd⟩ := F.ex
  refine ⟨len, fun A outer s H args us vs Q E hr hgd e0 hb r hsp => ?_⟩
  have old : ∀ {b : Addr} {o : Obj}, base.get? b = some o → s.heap.get? b = some o := fun {b o} e => (e0.bs b o e).1
  have kin : K.In s.heap := e0.mod.kin.keeps fun b o e => old e
  have nolim : s.heap.NoLimit := e0.mod.nolimit.keeps fun b o e => old e
  refine codeAny_call_function hr.depth (kin _ _ lk) rfl S.co S.gen rfl (PySem.W.codeRec_of kin hcd) (hb _ _ _ _ (wpAny_newFunctionEnv_cells S.kind (fun ⟨n, v⟩ hy => ?_) fun env he s1 x => ?_))
  · exact (S.par n (List.of_mem_zip hy).1).elim .inl fun q => .inr ⟨q, PySem.W.cellsFrom_some _ _ _ (.inl q)⟩
  · subst he
    obtain ⟨t, ht, hq⟩ := hbody cdv A outer s H vs Q E (hr.deeper _) hgd hsp
    refine ⟨nolim.keeps x.toInCall.keep, codeAny_func (wpAny_mono (ht.nox.run [] s1 (L2.start N vs) H _ (inv_start S hr.hd e0 (len _ _ _ _ hsp) r x) hq) (fun fl s' hs => ?_) fun e s' hs => hs)⟩
    match fl, hs with
    | .ret u, ⟨v, σ', H', J, rv, q⟩ => exact ⟨v, H', J.os, J.bare, J.base, J.hok, rv, q⟩
    | .next, ⟨σ', H', J, q⟩ => exact ⟨V.non, H', J.os, J.bare, J.base, J.hok, rfl, q⟩
    | .brk, ⟨_, _, _, q⟩ => exact False.elim q
    | .cont, ⟨_, _, _, q⟩ => exact False.elim q
end
end EV

namespace EV
open PySem PySem.Spec PyProof.Rows L2
theorem vals_each {K : PySem.W.Frag} {w : World} {O : Addr → Prop} {H : Hp} : ∀ {vs : List V} {us : List Value} {ds : List D}, Vals vs us → RoAll K w O H vs ds → PySem.W.EachIs (fun u d => ∃ v, RelV v u ∧ Ro K w O H v d) us ds
  | [], _, _, r, h => by cases r; cases h; exact .nil
  | v :: vs, _, _, r, h => by
    cases r with | cons r1 r2 =>
    cases h with | cons h1 h2 =>
    exact .cons ⟨v, r1, h1⟩ (vals_each r2 h2)
theorem each_vals {K : PySem.W.Frag} {w : World} {O : Addr → Prop} {H : Hp} : ∀ {us : List Value} {ds : List D}, PySem.W.EachIs (fun u d => ∃ v, RelV v u ∧ Ro K w O H v d) us ds → ∃ vs, Vals vs us ∧ RoAll K w O H vs ds
  | _, _, .nil => ⟨[], .nil, .nil⟩
  | _, _, .cons ⟨v, r, h⟩ t => by
    obtain ⟨vs, r2, h2⟩ := each_vals t
    exact ⟨v :: vs, .cons r r2, .cons h h2⟩
section
variable {X : Cx}
theorem reads_all {pins : List (Addr × Obj)} {s : Shared} {σ : L2.St} {H : Hp} (I : Inv X pins σ H s) {O : Addr → Prop} : ∀ {us : List Value} {ds : List D}, PySem.W.EachIs (fun u d => ∃ v, RelV v u ∧ Ro X.K X.w O H v d) us ds → dles 60 ds = true → PySem.W.EachIs (fun u d => ∃ as, Reads s.heap u d as) us ds
  | _, _, .nil, _ => .nil
  | _, _, .cons ⟨v, r, h⟩ t, e => by
    rw [dles, Bool.and_eq_true] at e
    exact .cons (Dp.reads I _ _ _ (h.dp 60 e.1).1 r) (reads_all I t e.2)
theorem dles_mem : ∀ {ds : List D}, dles 60 ds = true → ∀ d ∈ ds, dle 60 d = true
  | d :: ds, e, x, hx => by
    rw [dles, Bool.and_eq_true] at e
    rcases List.mem_cons.mp hx with rfl | hx
    · exact e.1
    · exact dles_mem e.2 x hx
theorem call_sortedX (hu : X.A.units + 65 < cLine) : CallR X (.builtin "sorted") (fun xs H Q => ∃ O b ds d, OkO O H ∧ RoBs X.K X.w O H b xs ds ∧ sortD ds = some d ∧ ∀ H' v, Same H H' → Ro X.K X.w O H' v d → Q v H') := by
  intro pins s σ H xs us Q I rx ⟨O, b, ds, d, hO, hx, e, q⟩
  unfold sortD at e
  split at e
  · rename_i ys
    obtain ⟨c, e⟩ := cond_some e
    cases e
    unfold sortOk at c
    simp only [Bool.and_eq_true, List.all_eq_true, Bool.or_eq_true] at c
    obtain ⟨c1, c2, c3, c4⟩ := c
    cases hx with | cons h t =>
    cases t
    obtain ⟨a, vs, rfl, h1, h2⟩ := h.list
    obtain ⟨its, rv, hl, _⟩ := I.list h1
    rw [Vals.ref1 rx]
    have ea := vals_each rv h2
    have hf := few_line
    have c4 := of_decide_eq_true c4
    refine PySem.W.sorted_data (enc := id) hl.isList ea (reads_all I ea c3) ?_ ?_ (by omega) (fun x hx => ?_) fun out ho er => ?_
    · rw [List.map_id]
      exact fun x hx y hy => c1 x hx y hy
    · rw [List.map_id]
      rcases c2 with c2 | c2
      · refine .inl fun x hx => ?_
        have := c2 x hx
        unfold isTupN at this
        split at this
        · exact ⟨_, _, rfl⟩
        · cases this
      · refine .inr fun x hx => ?_
        have := c2 x hx
        unfold isPlainD at this
        split at this
        · cases this
        · cases this
        · rename_i n1 n2
          exact ⟨n1, n2⟩
    · have := dle_depth 60 x (dles_mem c3 x hx)
      show X.A.units + 2 + x.depth < cLine
      omega
    · obtain ⟨vs', r', h'⟩ := each_vals er
      obtain ⟨ep, he'⟩ := PyProof.Rows.sortedAll_at s.heap its (List.toArray out)
      have hlen : vs'.length ≤ sizeLine := by
        rw [r'.length, ho]; omega
      have hfr : H (s.heap.objs.size + 1) = none := I.hok.fresh (Nat.le_succ _)
      exact ⟨.ref _, upd H (s.heap.objs.size + 1) (.lst vs'), I.laid (t' := s.toks) (fun _ _ => PyProof.Rows.sortedAll_old) (Nat.le_succ _) ⟨hlen, out, ep, r', he'⟩, rfl, q _ _ (same_upd hfr) (Ro.newL hO hfr h')⟩
  · cases e
/-! texts of data are texts -/
theorem all_app (x y : Str) : PyData.strOk (x ++ y) = (PyData.strOk x && PyData.strOk y) := by
  show (x.cps ++ y.cps).all _ = _
  rw [Array.all_append]; rfl
theorem all_from : ∀ (ts : List Str) (k : Nat) (acc : Str), PyData.strOk acc = true → (∀ t ∈ ts, PyData.strOk t = true) → PyData.strOk (textFrom k acc ts) = true
  | [], _, acc, h, _ => h
  | t :: r, k, acc, h, ht => by
    refine all_from r (k + 1) _ ?_ fun z hz => ht z (List.mem_cons_of_mem _ hz)
    rw [all_app, all_app, h, ht t List.mem_cons_self]
    split <;> decide +kernel
theorem all_join : ∀ ts : List Str, (∀ t ∈ ts, PyData.strOk t = true) → PyData.strOk (Str.join ", " ts) = true
  | [], _ => by decide +kernel
  | [x], h => h x List.mem_cons_self
  | x :: y :: r, h => by
    have ih := all_join (y :: r) fun z hz => h z (List.mem_cons_of_mem _ hz)
    show PyData.strOk (x ++ ", " ++ Str.join ", " (y :: r)) = true
    rw [all_app, all_app, h x List.mem_cons_self, ih]
    decide +kernel
theorem char_small (c : Char) : c.toNat < 1114112 := by
  rcases c.valid with h | ⟨_, h⟩
  · have h1 : c.toNat < 55296 := h
    omega
  · exact h
theorem all_ofString (x : String) : PyData.strOk (Str.ofString x) = true := by
  rw [Str.ofString_eq_toList]
  unfold PyData.strOk
  rw [Array.all_eq_true]
  intro i hi
  simp only [Array.getElem_map, decide_eq_true_eq]
  simp
  exact char_small _
theorem all_reprChar {q c : Nat} (hq : q < 128) (hc : c < 1114112) : ∀ x ∈ Builtin.Str.reprChar q c, x < 1114112 := by
  intro x hx
  have hd : ∀ {w : Nat} {x : Nat}, x ∈ List.replicate w 48 ++ (Nat.toDigits 16 c).map Char.toNat → x < 1114112 := fun {w x} h => by
    rcases List.mem_append.mp h with h | h
    · rw [(List.mem_replicate.mp h).2]; decide
    · obtain ⟨d, _, rfl⟩ := List.mem_map.mp h
      exact char_small d
  unfold Builtin.Str.reprChar at hx
  repeat' split at hx
  all_goals first
    | (simp at hx; rcases hx with rfl | rfl <;> first | omega | exact hc)
    | (simp at hx; subst hx; exact hc)
    | (rw [List.mem_append] at hx
       rcases hx with hx | hx
       · simp at hx; omega
       · exact hd hx)
theorem all_fold {q : Nat} (hq : q < 128) : ∀ (l : List Nat) (acc : Array Nat), (∀ c ∈ l, c < 1114112) → acc.all (· < 1114112) = true → (l.foldl (fun out c => out ++ (Builtin.Str.reprChar q c).toArray) acc).all (· < 1114112) = true
  | [], _, _, h => h
  | c :: r, acc, hl, h => by
    refine all_fold hq r _ (fun x hx => hl x (List.mem_cons_of_mem _ hx)) ?_
    rw [Array.all_append, h, Bool.true_and, List.all_toArray, List.all_eq_true]
    exact fun x hx => decide_eq_true (all_reprChar hq (hl c List.mem_cons_self) x hx)
theorem all_reprText {x : Str} (h : PyData.strOk x = true) : PyData.strOk (reprText x) = true := by
  have hq : reprQuote x < 128 := by unfold reprQuote; split <;> decide
  unfold PyData.strOk at h ⊢
  unfold reprText
  show Array.all (Array.push _ _) _ = true
  rw [← Array.foldl_toList]
  have h1 := all_fold hq x.cps.toList #[reprQuote x] (fun c hc => by
    rw [Array.all_eq_true_iff_forall_mem] at h
    exact of_decide_eq_true (h c (by simpa using hc))) (by simp; omega)
  rw [Array.all_push, h1]
  simp; omega
mutual
theorem all_shown : ∀ d : D, d.canLay0 = true → PyData.strOk d.shown = true
  | .none, _ => by decide +kernel
  | .bool b, _ => by cases b <;> decide +kernel
  | .int i, _ => by rw [PyData.shown]; exact all_ofString _
  | .str x, h => by rw [PyData.shown]; exact all_reprText h
  | .list xs, h => by
    rw [PyData.shown]
    unfold listText
    rw [all_app, all_from _ _ _ (by decide +kernel) (alls_shown xs h)]
    decide +kernel
  | .tuple xs, h => by
    rw [PyData.shown]
    unfold tupleText
    rw [all_app, all_app, all_join _ (alls_shown xs h)]
    split <;> decide +kernel
  | .dict _, h => by cases h
theorem alls_shown : ∀ ds : List D, PyData.canLayAll0 ds = true → ∀ t ∈ PyData.shownAll ds, PyData.strOk t = true
  | [], _, t, ht => by cases ht
  | d :: ds, h, t, ht => by
    rw [PyData.canLayAll0, Bool.and_eq_true] at h
    rw [PyData.shownAll] at ht
    rcases List.mem_cons.mp ht with rfl | ht
    · exact all_shown d h.1
    · exact alls_shown ds h.2 t ht
end
mutual
theorem nodict : ∀ (n : Nat) (d : D), dle n d = true → d.hasDict = false
  | _, .none, _ => rfl
  | _, .bool _, _ => rfl
  | _, .int _, _ => rfl
  | _, .str _, _ => rfl
  | 0, .list _, e => by cases e
  | 0, .tuple _, e => by cases e
  | n + 1, .list xs, e => by rw [PyData.hasDict]; exact nodicts n xs e
  | n + 1, .tuple xs, e => by rw [PyData.hasDict]; exact nodicts n xs e
  | 0, .dict _, e => by cases e
  | n + 1, .dict _, e => by cases e
theorem nodicts : ∀ (n : Nat) (ds : List D), dles n ds = true → PyData.hasDictAll ds = false
  | _, [], _ => rfl
  | n, d :: ds, e => by
    rw [dles, Bool.and_eq_true] at e
    rw [PyData.hasDictAll, nodict n d e.1, nodicts n ds e.2]; rfl
end
theorem call_reprX (hu : X.A.units + 65 < cLine) (hgd : X.A.guards = some []) : CallR X (.builtin "repr") (fun xs H Q => ∃ O b ds d, OkO O H ∧ RoBs X.K X.w O H b xs ds ∧ reprD ds = some d ∧ ∀ H' v, Same H H' → Ro X.K X.w O H' v d → Q v H') := by
  intro pins s σ H xs us Q I rx ⟨O, b, ds, d, hO, hx, e, q⟩
  unfold reprD at e
  split at e
  · rename_i y
    obtain ⟨c, e⟩ := cond_some e
    cases e
    rw [Bool.and_eq_true, Bool.and_eq_true, Bool.and_eq_true] at c
    obtain ⟨c1, c2, c3, c4⟩ := c
    cases hx with | @cons v0 _ _ _ h t =>
    cases t
    obtain ⟨hd, hc⟩ := h.dp 60 c1
    have qs : Q (.str y.shown) H := q H _ (Same.refl H) (.str _ (all_shown y hc))
    have hlen : y.shown.length ≤ sizeLine := by
      have := PyProof.Rows.shown_le13 c2 c3
      rw [sizeLine_eq]; omega
    obtain ⟨u, rfl⟩ : ∃ u, us = [u] := by cases rx with | cons r t => cases t; exact ⟨_, rfl⟩
    have ru : RelV v0 u := by cases rx with | cons r t => exact r
    have tok : ∀ t', Inv X pins σ H { s with toks := t' } := fun t' => I.kept (h' := s.heap) fun _ _ z => z
    cases y with
    | none => cases h.non; cases ru; exact PySem.P.repr_of_none ⟨.str _, H, tok _, ⟨_, rfl⟩, qs⟩
    | bool x =>
      cases h.bl
      cases ru
      refine PySem.P.repr_of_bool ⟨.str _, H, tok _, ⟨_, rfl⟩, ?_⟩
      cases x <;> exact qs
    | int i =>
      cases h.int
      obtain ⟨t, rfl⟩ := ru
      exact PySem.P.repr_of_int (of_decide_eq_true c4) ⟨.str _, H, tok _, ⟨_, rfl⟩, qs⟩
    | str x =>
      obtain ⟨rfl, _⟩ := h.str
      obtain ⟨t, rfl⟩ := ru
      exact PySem.P.repr_of_str ⟨.str _, H, tok _, ⟨_, rfl⟩, qs⟩ hlen
    | list x =>
      obtain ⟨a, vs, rfl, _, _⟩ := h.list
      cases ru
      obtain ⟨as, r⟩ := Dp.reads I _ _ _ hd rfl
      have hn := nodict 60 _ c1
      have hdp := dle_depth 60 _ c1
      exact repr_of_reads' r c4 (fun z => by rw [hn] at z; cases z) hgd (by omega) (fun _ _ z => z) (fun h' u tk k => ⟨.str _, H, I.kept k, ⟨_, rfl⟩, qs⟩) hlen
    | tuple x =>
      obtain ⟨a, vs, rfl, _, _⟩ := h.tup
      cases ru
      obtain ⟨as, r⟩ := Dp.reads I _ _ _ hd rfl
      have hn := nodict 60 _ c1
      have hdp := dle_depth 60 _ c1
      exact repr_of_reads' r c4 (fun z => by rw [hn] at z; cases z) hgd (by omega) (fun _ _ z => z) (fun h' u tk k => ⟨.str _, H, I.kept k, ⟨_, rfl⟩, qs⟩) hlen
    | dict x => cases c1
  · cases e
end
end EV

set_option maxHeartbeats 1000000
namespace EV
open PySem PySem.W PySem.Calls PyProof.Rows
/-! ### an own exception's __init__ that says super().__init__(at) and self.at = at -/
def iBody (p0 p1 p2 p3 p4 p5 p6 p7 p8 p9 : Pos) : List Stmt :=
  [.Expr (.Call (.Attribute (.Call (.Name "super" p0) [] [] p1) "__init__" p2) [.Name "at" p3] [] p4) p5, .Assign [.Attribute (.Name "self" p6) "at" p7] (.Name "at" p8) p9]
def iCall (p0 p1 p2 p3 p4 : Pos) : Expr := .Call (.Attribute (.Call (.Name "super" p0) [] [] p1) "__init__" p2) [.Name "at" p3] [] p4
def iEv (p0 p1 p2 p3 p4 : Pos) (pl : Sem Bool) (env : Env) : Sem Value := do
  let ov ← attributeBase (.Call (.Name "super" p0) [] [] p1) "__init__" env (eval (.Call (.Name "super" p0) [] [] p1) env)
  standAt p2.atName
  let (f, first) ← holding [ov] (getMethod ov "__init__" pl)
  callWith p4 f first (backTo p4 (starEach [.Name "at" p3] env)) []
structure IniF (P : Program) (K : Frag) (D fI cc cda : Addr) (qual : Str) (params : Arguments) (body : List Stmt) (scope : Scope) : Prop where
  lk : ∃ (nm : Str) (oc : Value) (od : Option Addr) (kV doc pm : Value) (an : Option Addr) (ct : Value) (osl : Array (Option Value)), K.lookup fI = some ⟨oc, od, .func (ksFn nm qual params body scope .none kV doc pm an (.ref cda) ct cc), osl⟩
  cd : codeIn K (.ref cda) qual = true
  cell : ∃ (cl : Value) (cld : Option Addr) (csl : Array (Option Value)), K.lookup cc = some ⟨cl, cld, .cell (some (.ref D)), csl⟩
  code : ∃ (ccl : Value) (cdd : Option Addr) (vs : Array Value) (ccs : Array (Option Value)) (file : Str) (tf : Tok), K.lookup cda = some ⟨ccl, cdd, .fields vs, ccs⟩ ∧ vs[2]? = some (.str file tf) ∧ ((P.main.file : Str) == file) = true
  cls : ∃ cdD, clsIn K D = some cdD
  any : nsIn K cStatics "thirdparty.any" = some none
  kind : scope.kind = .function
  co : scope.isCoroutine = false
  gen : scope.isGenerator = false
  nocell : ∀ x ∈ scope.names, x.2 ≠ .cell
  sup : scope.names.lookup ("super" : Str) = some .globalImplicit
  cls_ : scope.names.lookup ("__class__" : Str) = some .free
  slf : scope.names.lookup ("self" : Str) = some .local
  at_ : scope.names.lookup ("at" : Str) = some .local
  head : ∃ ar, (params.posonlyargs ++ params.args).head? = some ar ∧ ar.arg = ("self" : Str)
  top : (P.main.scope.names.lookup ("super" : Str)).isSome = false
/-- what the class is: its name's own init, its line of classes -/
structure ExcF (K : Frag) (C D fI : Addr) : Prop where
  oex : L2.OexC K C
  ini : findIn K (.ref C) "__init__" = some (some (.ref fI))
  typ : typeIn K (.ref fI) = some (.type "function")
  sub : mroIn K C (.ref D) = some true
  subV : subIn K (.ref C) (.type "ValueError") = some true
  sup : ks_superIn K C D "__init__" = some (some (.builtin "ValueError.__init__"))
  noat : findIn K (.ref C) "at" = some none
section
variable {P : Program} {w : World} {K : Frag} {mg : Str → Option Value} {base : Heap} {A : Around} {D fI cc cda C a t0 : Addr} {qual : Str} {params : Arguments} {scope : Scope} {p0 p1 p2 p3 p4 p5 p6 p7 p8 p9 : Pos}
/-- the wrapper called -/
theorem mw_call {u t : Addr} {rest : List Value} {h : Heap} {g : Array GenState} {d : Drawn} {tk : Nat} {os : OsState} {E : Value → Shared → Prop} {Q : Value → Shared → Prop} (T : L2.OexC K C) (X : K.In h) (hu : h.get? u = some (kxs_mw "ValueError.__init__" a)) (he : h.get? a = some (HandSPX.excO C t)) (hz : rest.length ≤ sizeLine)
    (fin : ∀ h' t', (∀ b o, b ≠ a → h.get? b = some o → h'.get? b = some o) → h'.get? a = some (HandSPX.excO C t') → Q .none ⟨h', g, d, tk, os⟩) :
    wpAny (model P w) A (call (.ref u) rest) Q E ⟨h, g, d, tk, os⟩ := by
  obtain ⟨nm, q, N, bs, bm, sn, sub, ab, col, dd, k0, k1, k2, k3, k5, hC, hbm⟩ := T.cls
  refine wpAny_call (codeAny_of_tree ?_)
  show wpAny _ A.in1 (callAny (.ref u) ⟨rest, []⟩) _ _ _
  simp only [callAny]
  refine wpAny_bind (wpAny_load hu ?_)
  simp only [kxs_mw, show (Value.type "method-wrapper" == Value.type "method" || Value.type "method-wrapper" == Value.type "builtin_function_or_method" || Value.type "method-wrapper" == Value.type "method-wrapper") = true by decide, if_true]
  refine KFB.if_so (by decide) ?_
  refine wpAny_bind (check_bound_init F.excBase_ValueError.toExcCallFacts (X _ _ hC) he rfl ?_)
  refine wpAny_bind (wpAny_pure (wpAny_pure ?_))
  refine ⟨plainId_quiet F.excBase_ValueError.init.plain _, codeAny_builtin F.excBase_ValueError.initEntry ?_⟩
  exact exc_init_tree (cls := .ref C) (t0 := t) (dv := none) (c2 := .none) (c3 := .none) (b4 := .bool false) he hz fun h' k e' _ => fin h' _ k e'
theorem Rows_ldL {M : Model} {A : Around} {E : Value → Shared → Prop} {s : Shared} {env : Env} {m : Str → Option Value} {x : Str} {pos : Pos} {v : Value} {Q : Value → Shared → Prop} (hn : s.heap.Ns env.locals m) (hv : m x = some v) (h : Q v s)
    (hk : env.scope.kind = .function) (hl : env.kindOf x = some .local) (hd : (x == ("__debug__" : Str)) = false) : wpAny M A (eval (.Name x pos) env) Q E s := wpAny_Name (wpAny_loadName_local hk hl hn hv h) hd
theorem init_code {v : Value} {s : Shared} {R : Result → Shared → Prop} (M : L2.Mod K mg base) (old : ∀ b o, base.get? b = some o → s.heap.get? b = some o) (I : IniF P K D fI cc cda qual params (iBody p0 p1 p2 p3 p4 p5 p6 p7 p8 p9) scope) (T : ExcF K C D fI)
    (hms : mg "super" = none) {pl : Sem Bool} (hev : ∀ L f cd cc, eval (iCall p0 p1 p2 p3 p4) (ksEnv qual scope L f cd cc) = iEv p0 p1 p2 p3 p4 pl (ksEnv qual scope L f cd cc)) (hint : ∀ L f cd cc, interactive (ksEnv qual scope L f cd cc) = false)
    (hsw1 : ∀ L f cd cc, swapsWith (iCall p0 p1 p2 p3 p4) none p5.line (ksEnv qual scope L f cd cc) = pure false) (hsw2 : ∀ L f cd cc, swapsWith (.Name "at" p8) (some (.Attribute (.Name "self" p6) "at" p7)) p9.line (ksEnv qual scope L f cd cc) = pure false) (hr : A.depth < recursionLimit) (han : base.get? a = none) (ha : s.heap.get? a = some (HandSPX.excO C t0))
    (hb : ∀ (nm : Str) (kV doc pm : Value) (an : Option Addr) (ct : Value), BindsTo s (ksFn nm qual params (iBody p0 p1 p2 p3 p4 p5 p6 p7 p8 p9) scope .none kV doc pm an (.ref cda) ct cc) ⟨[.ref a, v], []⟩ [("self", .ref a), ("at", v)])
    (hq : ∀ h' tk t1 dx, (∀ b o, b ≠ a → s.heap.get? b = some o → h'.get? b = some o) → s.heap.objs.size ≤ dx → h'.get? a = some { cls := .ref C, dict := some dx, data := .fields #[.ref t1, .none, .none, .none, .bool false, .none] } →
      h'.Ns1 dx (fun y => if y = ("at" : Str) then some v else none) → R (.ok (.ret .none)) { s with heap := h', toks := tk }) :
    codeAny (model P w) A (.call (.ref fI) ⟨[.ref a, v], []⟩) R s := by
  have X : K.In s.heap := M.kin.keeps old
  obtain ⟨nm, oc, od, kV, doc, pm, an, ct, osl, lk⟩ := I.lk
  obtain ⟨cl, cld, csl, hcell⟩ := I.cell
  obtain ⟨ccl, cdd, vs, ccs, file, tf, hcode, hvs, hfile⟩ := I.code
  obtain ⟨cdD, hD⟩ := I.cls
  obtain ⟨ar, har, harg⟩ := I.head
  have nolim : s.heap.NoLimit := M.nolimit.keeps old
  have hal : a < s.heap.objs.size := Heap.lt_size ha
  refine ks_codeAny_call_defAt (fd := ksFn nm qual params (iBody p0 p1 p2 p3 p4 p5 p6 p7 p8 p9) scope .none kV doc pm an (.ref cda) ct cc) (body := iBody p0 p1 p2 p3 p4 p5 p6 p7 p8 p9) (binds := [("self", .ref a), ("at", v)]) hr (X _ _ lk) rfl nolim (codeRec_of X I.cd) rfl
    (hb nm kV doc pm an ct) I.nocell (fun x hx => ?_) (fun h1 hns k1 => ?_) I.co I.gen I.kind
  · simp only [List.mem_cons, List.not_mem_nil, or_false] at hx
    rcases hx with rfl | rfl
    · exact I.slf
    · exact I.at_
  have X1 : K.In h1 := X.keeps k1
  have ha1 : h1.get? a = some (HandSPX.excO C t0) := k1 _ _ ha
  have haL : s.heap.objs.size ≠ a := Nat.ne_of_gt hal
  obtain ⟨mb, hb1, hb2⟩ := M.blt
  have up : ∀ b o, base.get? b = some o → h1.get? b = some o := fun b o e => k1 b o (old b o e)
  have mself : (fun x => ([("self", Value.ref a), ("at", v)] : List (Str × Value)).reverse.lookup x) ("self" : Str) = some (.ref a) := by rfl
  have mat : (fun x => ([("self", Value.ref a), ("at", v)] : List (Str × Value)).reverse.lookup x) ("at" : Str) = some v := by rfl
  show _root_.PySem.wpAt (model P w) (A.deeper (ksEnv qual scope s.heap.objs.size fI (.ref cda) cc)) (.func (iBody p0 p1 p2 p3 p4 p5 p6 p7 p8 p9) (ksEnv qual scope s.heap.objs.size fI (.ref cda) cc)) (execs (iBody p0 p1 p2 p3 p4 p5 p6 p7 p8 p9) (ksEnv qual scope s.heap.objs.size fI (.ref cda) cc)) _ _ _
  generalize hm : (fun x => ([("self", Value.ref a), ("at", v)] : List (Str × Value)).reverse.lookup x) = m at hns mself mat
  generalize hL : s.heap.objs.size = L at *
  obtain ⟨oD, hD1, hD2⟩ : ∃ oD, h1.get? D = some oD ∧ oD.data = .cls cdD := by
    unfold clsIn at hD
    split at hD
    · rename_i c d cd' sl ho
      cases hD
      exact ⟨_, X1 _ _ ho, rfl⟩
    · cases hD
  refine ks_wpAt_execs_cons (ks_wpAt_Expr_any (ks_wpAt_MethodCall (pl := pl) (ks_wpAt_super_base (env := ksEnv qual scope L fI (.ref cda) cc) I.sup I.cls_ rfl rfl (X1 _ _ lk) rfl har rfl (X1 _ _ hcode) rfl hvs hfile I.top ?_) (hev _ _ _ _)) (hint _ _ _ _) (hsw1 _ _ _ _))
  refine ks_loadName_global I.kind I.sup (loadGlobal_builtin (env := ksEnv qual scope L fI (.ref cda) cc) (M.glob.keeps up) hms (hb1.keeps up) ((hb2 _ (by decide +kernel)).trans (show bootBuiltins "super" = some (.type "super") by decide +kernel)) ⟨rfl, ?_⟩)
  refine wpAny_loadName_free I.kind I.cls_ rfl ⟨_, X1 _ _ hcell, rfl⟩ ?_
  rw [harg]
  refine wpAny_loadName_local I.kind I.slf hns mself ?_
  refine ks_wpAny_isType_cls hD1 hD2 ⟨rfl, ?_⟩
  refine ks_wpAny_call_super hD1 hD2 ha1 rfl (fun c e => by cases e) (looks_mroIn X1 T.sub) (fun h2 e2 k2 => ?_)
  have X2 : K.In h2 := X1.keeps k2
  have ha2 : h2.get? a = some (HandSPX.excO C t0) := k2 _ _ ha1
  obtain ⟨nmC, qC, NC, bsC, bmC, snC, subC, abC, colC, ddC, c0, c1, c2, c3, c5, hC, hbm⟩ := T.oex.cls
  have hcl : clsIn K C = some { name := nmC, bases := bsC, mro := .ref C :: bmC, ns := NC, qualname := qC, hasDict := true, slotNames := snC, subclasses := subC, abstract := abC, collection := colC, hasDel := false } := by unfold clsIn; rw [hC] <;> rfl
  have hsup := T.sup
  unfold ks_superIn at hsup
  rw [hcl] at hsup
  have hCo : h2.get? C = _ := X2 _ _ hC
  have haC : a ≠ C := fun z => by rw [z] at ha2; rw [ha2] at hCo; cases hCo
  refine kxs_getMethod kxs_ValueError (so := h1.objs.size) (C := C) (D := D) e2 (looks_opaque X2 I.any) (l₀ := .ref C :: bmC) (fun A Q E s k q => wpAny_bind ((looks_clsIn X2 hcl) A _ E s k (wpAny_pure q))) rfl X2 hsup ?_ haC rfl ?_
  · exact (show Looks (model P w) h2 (isInstance (.ref a) (.type "ValueError")) true from (InstAt.type (C := C) (od := none) ⟨ha2, rfl, rfl, trivial⟩).andThen (looks_subIn X2 T.subV))
  have k3 : ∀ b o, h2.get? b = some o → (h2.push (kxs_mw "ValueError.__init__" a)).get? b = some o := fun b o e => Heap.get?_push_of_some _ e
  have hu3 : (h2.push (kxs_mw "ValueError.__init__" a)).get? h2.objs.size = some (kxs_mw "ValueError.__init__" a) := Heap.get?_push_size _ rfl
  have ns3 : (h2.push (kxs_mw "ValueError.__init__" a)).Ns L m := PySem.Heap.Ns.at' hns fun o e => k3 _ _ (k2 _ _ e)
  refine kxs_callWith (i := "ValueError.__init__") (x := a) rfl (evalArgs_plain (spliced_cons (Rows_ldL ns3 mat ?_ I.kind I.at_ rfl)))
  refine spliced_nil ⟨hu3, ?_⟩
  refine mw_call T.oex (X2.keeps k3) hu3 (k3 _ _ ha2) (by show 1 ≤ sizeLine; decide) fun h4 t4 k4 ha4 => ?_
  have kL : L ≠ a := haL
  have ns4 : h4.Ns L m := PySem.Heap.Ns.at' ns3 fun o e => k4 _ _ kL e
  have nb : ∀ b o, base.get? b = some o → b ≠ a := fun b o e z => by rw [z, han] at e; cases e
  have up4 : ∀ b o, base.get? b = some o → h4.get? b = some o := fun b o e => k4 b o (nb b o e) (k3 _ _ (k2 _ _ (up b o e)))
  have X4 : K.In h4 := M.kin.keeps up4
  have old4 : ∀ b o, b ≠ a → s.heap.get? b = some o → h4.get? b = some o := fun b o n e => k4 b o n (k3 _ _ (k2 _ _ (k1 b o e)))
  refine ks_wpAt_execs_cons (ks_wpAt_Assign_Attr (wpAt_of_wpAny (Rows_ldL ns4 mat (Rows_ldL ns4 mself ?_ I.kind I.slf rfl) I.kind I.at_ rfl)) (hsw2 _ _ _ _))
  refine set_plain X4 (ox := HandSPX.excO C t4) (od := none) ⟨ha4, rfl, rfl, trivial⟩ T.oex.sa ?_
  refine HandSPX.exc_osa X4 ha4 hcl (show HandSPX.refsVE (.ref C :: bmC) = true from hbm) rfl T.noat (fun h5 t5 dx k5 dn dne hx hn => ?_)
  show _root_.PySem.wpAt _ _ _ _ _ _ _
  refine wpAt_of_wpAny (wpAny_pure ?_)
  refine hq h5 t5 t4 dx (fun b o n e => k5 b o n (old4 b o n e)) ?_ hx hn
  have := ns4.lt
  exact Nat.le_trans (Nat.le_of_lt this) dn

/-- C(v) -/
theorem make_raw {v : Value} {hp : Heap} {g : Array GenState} {d : Drawn} {t : Nat} {os : OsState} {E : Value → Shared → Prop} {Q : Value → Shared → Prop} {k : Nat} (M : L2.Mod K mg base) (old : ∀ b o, base.get? b = some o → hp.get? b = some o) (bsz : base.objs.size ≤ hp.objs.size) (I : IniF P K D fI cc cda qual params (iBody p0 p1 p2 p3 p4 p5 p6 p7 p8 p9) scope) (T : ExcF K C D fI)
    (hms : mg "super" = none) {pl : Sem Bool} (hev : ∀ L f cd cc, eval (iCall p0 p1 p2 p3 p4) (ksEnv qual scope L f cd cc) = iEv p0 p1 p2 p3 p4 pl (ksEnv qual scope L f cd cc)) (hint : ∀ L f cd cc, interactive (ksEnv qual scope L f cd cc) = false)
    (hsw1 : ∀ L f cd cc, swapsWith (iCall p0 p1 p2 p3 p4) none p5.line (ksEnv qual scope L f cd cc) = pure false) (hsw2 : ∀ L f cd cc, swapsWith (.Name "at" p8) (some (.Attribute (.Name "self" p6) "at" p7)) p9.line (ksEnv qual scope L f cd cc) = pure false)
    (hr : L2.Room (k + 1) A)
    (hb : ∀ (s : Shared) (a : Addr) (nm : Str) (kV doc pm : Value) (an : Option Addr) (ct : Value), BindsTo s (ksFn nm qual params (iBody p0 p1 p2 p3 p4 p5 p6 p7 p8 p9) scope .none kV doc pm an (.ref cda) ct cc) ⟨[.ref a, v], []⟩ [("self", .ref a), ("at", v)])
    (hq : ∀ h' tk t1 a dx, (∀ b o, hp.get? b = some o → h'.get? b = some o) → hp.objs.size ≤ a → hp.objs.size ≤ dx → dx ≠ a → h'.get? a = some { cls := .ref C, dict := some dx, data := .fields #[.ref t1, .none, .none, .none, .bool false, .none] } →
      h'.Ns1 dx (fun y => if y = ("at" : Str) then some v else none) → Q (.ref a) ⟨h', g, d, tk, os⟩) :
    wpAny (model P w) A (call (.ref C) [v]) Q E ⟨hp, g, d, t, os⟩ := by
  have X : K.In hp := M.kin.keeps old
  obtain ⟨nmC, qC, NC, bsC, bmC, snC, subC, abC, colC, ddC, c0, c1, c2, c3, c5, hC, hbm⟩ := T.oex.cls
  have k1 : ∀ b o, hp.get? b = some o → ((hp.push (kdv_tup [v])).push (HandSPX.excO C hp.objs.size)).get? b = some o := fun b o e => Heap.get?_push_of_some _ (Heap.get?_push_of_some _ e)
  have hget : ((hp.push (kdv_tup [v])).push (HandSPX.excO C hp.objs.size)).get? (hp.objs.size + 1) = some (HandSPX.excO C hp.objs.size) := by heap_get
  refine wpAny_call (HandSPX.call_own F.excBase_ValueError (fun Y => HandSPX.refsVE_contains Y bmC hbm) (X _ _ hC) (looks_findIn X T.ini) (fun self => bind_fn X self T.typ) (by show 1 ≤ sizeLine; decide)
    (init_code (t0 := hp.objs.size) (a := hp.objs.size + 1) M (fun b o e => k1 b o (old b o e)) I T hms hev hint hsw1 hsw2 (hr.make C [v] []).depth ?_ hget (hb _ _) fun h' tk t1 dx kk hdx hx hn => ?_))
  · cases e : base.get? (hp.objs.size + 1) with
    | none => rfl
    | some o =>
      have := Heap.lt_size e
      exact absurd (Nat.lt_of_lt_of_le this bsz) (by omega)
  · have hs : hp.objs.size ≤ hp.objs.size + 1 := Nat.le_succ _
    have hdx' : hp.objs.size ≤ dx := Nat.le_trans (by rw [Heap.size_push, Heap.size_push]; omega) hdx
    refine ⟨rfl, hq h' tk t1 (hp.objs.size + 1) dx (fun b o e => kk b o (Nat.ne_of_lt (Nat.lt_succ_of_lt (Heap.lt_size e))) (k1 b o e)) hs hdx' (fun z => ?_) hx hn⟩
    obtain ⟨o, es, ep, e1, e2, _⟩ := hn
    rw [z, hx] at e1
    have := Option.some.inj e1
    subst this
    cases e2
end
end EV

namespace EV
open PySem PySem.Spec PyProof.Rows L2
/-- an own class of errors stands in the module -/
def ExcAt (P : Program) (K : PySem.W.Frag) (mg : Str → Option Value) (x : Str) : Prop :=
  ∃ (C D fI cc cda : Addr) (qual : Str) (params : Arguments) (scope : Scope) (p0 p1 p2 p3 p4 p5 p6 p7 p8 p9 : Pos) (pl : Sem Bool),
    PySem.W.nsIn K mainGlobals x = some (some (.ref C)) ∧ mg x = some (.ref C) ∧ mg "super" = none ∧ ExcF K C D fI ∧ IniF P K D fI cc cda qual params (iBody p0 p1 p2 p3 p4 p5 p6 p7 p8 p9) scope ∧
    (∀ L f cd cc, eval (iCall p0 p1 p2 p3 p4) (PySem.W.ksEnv qual scope L f cd cc) = iEv p0 p1 p2 p3 p4 pl (PySem.W.ksEnv qual scope L f cd cc)) ∧ (∀ L f cd cc, interactive (PySem.W.ksEnv qual scope L f cd cc) = false) ∧
    (∀ L f cd cc, swapsWith (iCall p0 p1 p2 p3 p4) none p5.line (PySem.W.ksEnv qual scope L f cd cc) = pure false) ∧ (∀ L f cd cc, swapsWith (.Name "at" p8) (some (.Attribute (.Name "self" p6) "at" p7)) p9.line (PySem.W.ksEnv qual scope L f cd cc) = pure false) ∧
    (∀ (v : Value) (s : Shared) (a : Addr) (nm : Str) (kV doc pm : Value) (an : Option Addr) (ct : Value), BindsTo s (PySem.W.ksFn nm qual params (iBody p0 p1 p2 p3 p4 p5 p6 p7 p8 p9) scope .none kV doc pm an (.ref cda) ct cc) ⟨[.ref a, v], []⟩ [("self", .ref a), ("at", v)])
def tMkE (K : PySem.W.Frag) (x : Str) (ta : TA) : TE := fun σ H Q => ta σ H fun vs H1 => ∃ v, vs = [v] ∧ ∀ a dx C, H1 a = none → H1 dx = none → a ≠ dx → PySem.W.nsIn K mainGlobals x = some (some (.ref C)) → Q (.ref a) (upd (upd H1 dx (.xd [("at", v)])) a (exoA a C dx))
section
variable {X : Cx} {k : Nat} {x : Str} {p pos : Pos} {e : Expr} {es : List Expr} {ta : TA}
theorem laid2 {pins : List (Addr × Obj)} {σ : L2.St} {H : Hp} {hp h' : Heap} {g : Array GenState} {d : Drawn} {t tk : Nat} {os : OsState} {a dx : Addr} {o1 o2 : HO} (I : Inv X pins σ H ⟨hp, g, d, t, os⟩) (k : ∀ b o, hp.get? b = some o → h'.get? b = some o) (ha : hp.objs.size ≤ a) (hd : hp.objs.size ≤ dx) (hne : dx ≠ a)
    (n1 : ObjOk X.prog X.w (upd (upd H dx o1) a o2) h' dx o1) (n2 : ObjOk X.prog X.w (upd (upd H dx o1) a o2) h' a o2) : Inv X pins σ (upd (upd H dx o1) a o2) ⟨h', g, d, tk, os⟩ := by
  have hna : H a = none := I.hok.fresh ha
  have hnd : H dx = none := I.hok.fresh hd
  have nb : ∀ {b : Addr} {o : Obj} {c : Addr}, hp.get? b = some o → hp.objs.size ≤ c → b ≠ c := fun q h => Nat.ne_of_lt (Nat.lt_of_lt_of_le (Heap.lt_size q) h)
  have U : Un X.fs [] H (upd (upd H dx o1) a o2) hp h' :=
    { keep := fun b o q _ _ _ => k b o q
      slot := fun b o q _ _ _ => ⟨o.slots, k b o q⟩
      free := fun b o q n _ => by rw [upd_ne (nb q ha), upd_ne (nb q hd)]; exact n
      there := fun b o q _ => ⟨o, k b o q⟩
      tups := fun b xs q => by rw [upd_ne (ne_of_none q hna), upd_ne (ne_of_none q hnd)]; exact q
      frzs := fun b o v q => by rw [upd_ne (ne_of_none q hna), upd_ne (ne_of_none q hnd)]; exact q
      tbls := fun b ps q => ⟨#[], by rw [upd_ne (ne_of_none q hna), upd_ne (ne_of_none q hnd), q]; simp⟩ }
  refine I.un (t' := tk) U fun b o q => ?_
  by_cases h1 : b = a
  · subst h1
    rw [upd_same] at q
    cases q
    exact n2
  · rw [upd_ne h1] at q
    by_cases h2 : b = dx
    · subst h2
      rw [upd_same] at q
      cases q
      exact n1
    · rw [upd_ne h2] at q
      exact (I.hok b o q).stay (fun c v _ z => k c v z) (fun c hc => by rw [upd_ne (ne_of_none hc hna), upd_ne (ne_of_none hc hnd)]; exact hc) (fun c xs hc => by rw [upd_ne (ne_of_none hc hna), upd_ne (ne_of_none hc hnd)]; exact hc)
theorem pe_mkE (T : ExcAt X.prog X.K X.mg x) (hr : Room (k + 1) X.A) (hg : Gl X x) (ha : PA X (e :: es) ta) (hdb : (x == ("__debug__" : Str)) = false) (he : starEach (e :: es) X.env = (false, eval e X.env) :: starEach es X.env) (hpl : (backTo pos (starEach es X.env)).any (·.1) = false) :
    PE X (.Call (.Name x p) (e :: es) [] pos) (tMkE X.K x ta) := by
  obtain ⟨C, D, fI, cc, cda, qual, params, scope, p0, p1, p2, p3, p4, p5, p6, p7, p8, p9, pl, hns, hm, hms, TF, TI, hev, hint, hsw1, hsw2, hb⟩ := T
  refine ⟨fun pins s σ H Q I h => wpAny_Call_Name_kw (ld_glob I hg hm ?_ hdb)⟩
  refine PySem.W.callWith_K (h₀ := X.base) I.ok.mod.kin TF.oex.kC (thn (ha.run pos pins s σ H _ I h) fun us s1 ⟨vs, H1, J, r, v, ev, q⟩ => ⟨J.kIn, ?_⟩) he hpl
  subst ev
  cases r with
  | @cons _ u _ _ r0 rr =>
    cases rr
    obtain ⟨hp, g, d, t, os⟩ := s1
    refine make_raw (k := k) J.env0.mod (fun b o e => (J.env0.bs b o e).1) J.env0.bsz TI TF hms hev hint hsw1 hsw2 hr (hb u) fun h' tk t1 a dx kk hza hzd hne hx hn => ?_
    refine ⟨.ref a, _, laid2 J kk hza hzd hne (o1 := .xd [("at", v)]) (o2 := exoA a C dx) ?_ ?_, rfl, q a dx C (J.hok.fresh hza) (J.hok.fresh hzd) (Ne.symm hne) hns⟩
    · refine ⟨_, hn, fun f => ?_⟩
      rw [lookup_put]
      by_cases hf : f = ("at" : Str)
      · rw [if_pos hf, if_pos hf]; exact r0
      · rw [if_neg hf, if_neg hf]; trivial
    · exact ⟨⟨_, _, hx, rfl, rfl, rfl⟩, ⟨_, hx⟩, fun h1 h2 ⟨oe, vs, z1, z2⟩ k2 => ⟨oe, vs, k2 _ z1, z2⟩⟩
end
end EV

namespace EV
open PySem PySem.Spec PyProof.Rows L2
/-- what is told of a class whose instances are asked -/
structure ExcR (K : PySem.W.Frag) (C : Addr) : Prop where
  c : ExcC K C
  cls : (PySem.W.clsIn K C).isSome = true
  noat : PySem.W.findIn K (.ref C) "at" = some none
def ExcK (K : PySem.W.Frag) (xs : List Str) : Prop := ∀ x ∈ xs, ∀ C, PySem.W.nsIn K mainGlobals x = some (some (.ref C)) → ExcR K C
section
variable {X : Cx} {pins : List (Addr × Obj)} {σ : L2.St} {H : Hp} {s : Shared}
theorem exo_inst {a C dx : Addr} {u : V} (I : Inv X pins σ H s) (e1 : H a = some (exoA a C dx)) (e2 : H dx = some (.xd [("at", u)])) : ∃ oe od mA, PySem.W.InstAt s.heap a oe C (some od) ∧ s.heap.get? dx = some od ∧ s.heap.Ns1 dx mA ∧ ∀ f, RelO (([("at", u)] : List (Str × V)).lookup f) (mA f) := by
  have x1 : ObjOk X.prog X.w H s.heap a (.ext fun h => ∃ (oe : Obj) (vs : Array Value), h.get? a = some oe ∧ oe.cls = .ref C ∧ oe.dict = some dx ∧ oe.data = .fields vs) := I.hok a _ e1
  obtain ⟨⟨oe, vs, h1, h2, h3, h4⟩, _⟩ := x1
  have x2 : ObjOk X.prog X.w H s.heap dx (.xd [("at", u)]) := I.hok dx _ e2
  obtain ⟨mA, hns, hr⟩ := x2
  have ⟨od, es, ep, ho, hd⟩ := hns
  exact ⟨oe, od, mA, ⟨h1, h2, by unfold PySem.W.notCls; rw [h4] <;> rfl, by rw [h3]; exact ho⟩, ho, hns, hr⟩
end
/-- isinstance(e, c), e an own exception -/
def rIsA (K : PySem.W.Frag) : List V → Hp → VK → Prop := fun xs H Q => ∃ (a dx C : Addr) (u c : V) (cv : Value) (b : Bool), xs = [.ref a, c] ∧ H a = some (exoA a C dx) ∧ H dx = some (.xd [("at", u)]) ∧ ExcR K C ∧ (∀ u, RelV c u → u = cv) ∧ (∀ a', cv ≠ .ref a' ∨ True) ∧ PySem.W.kitOne K (.ref C) cv = some b ∧ Q (.bl b) H
theorem call_isA {X : Cx} : CallR X (.builtin "isinstance") (rIsA X.K) := by
  intro pins s σ H xs us Q I r h
  obtain ⟨a, dx, C, u, c, cv, b, rfl, e1, e2, R, hcv, _, e, q⟩ := h
  cases r with
  | cons rx rr =>
    cases rr with
    | cons rt rr =>
      cases rr
      cases rx
      have ec := hcv _ rt
      subst ec
      obtain ⟨oe, od, mA, J, _⟩ := exo_inst I e1 e2
      exact PySem.W.kia_one (PySem.W.kitx_exc R.cls R.c.hg R.c.hk R.c.hs R.c.ha R.c.hn R.c.ht R.c.hm) I.kIn J e (fun z => nomatch z) fun tk => ⟨.bl b, H, I.kept (t' := tk) fun _ _ z => z, rfl, q⟩
/-- e.at -/
def tAt (K : PySem.W.Frag) (te : TE) : TE := fun σ H Q => te σ H fun x H1 => ∃ (a dx C : Addr) (u : V), x = .ref a ∧ H1 a = some (exoA a C dx) ∧ H1 dx = some (.xd [("at", u)]) ∧ ExcR K C ∧ Q u H1
theorem pe_at {X : Cx} {e : Expr} {te : TE} {pos : Pos} (he : PE X e te) (hb : attributeBase e "at" X.env (eval e X.env) = eval e X.env) : PE X (.Attribute e "at" pos) (tAt X.K te) := by
  refine ⟨fun pins s σ H Q I h => ?_⟩
  refine attr_of hb (thn (he.run pins s σ H _ I h) fun u s1 hh => ?_)
  obtain ⟨x, H1, I1, rx, a, dx, C, v, ex, e1, e2, R, q⟩ := hh
  subst ex
  obtain rfl : u = Value.ref a := rx
  obtain ⟨oe, od, mA, J, ho, hns, hr⟩ := exo_inst I1 e1 e2
  obtain ⟨od', ho', hl⟩ := lookIn_ns hns
  rw [ho] at ho'
  cases ho'
  have hat := hr ("at" : Str)
  obtain ⟨w, hw, rw'⟩ := RelO.some_of (v := v) (o := mA "at") (by exact hat)
  exact HandSPX.exc_get I1.kIn J R.c.hg R.c.hk R.c.hs (PySem.W.findObj_own R.c.hd R.noat rfl (by rw [hl, hw])) (handed_of rw') ⟨v, H1, I1.tok _, rw', q⟩
end EV

namespace EV
open PySem PySem.Spec PyProof.Rows L2
/-! ### sum of lists -/
inductive LsAt (h : Heap) : List Value → List (List Value) → Prop where
  | nil : LsAt h [] []
  | cons {a : Addr} {xs : List Value} {us : List Value} {ls : List (List Value)} : h.IsList a xs.toArray → LsAt h us ls → LsAt h (.ref a :: us) (xs :: ls)
theorem LsAt.len {h : Heap} {us : List Value} {ls : List (List Value)} (r : LsAt h us ls) : ls.length = us.length := by
  induction r with
  | nil => rfl
  | cons _ _ ih => simp [ih]
section
variable {prog : Program} {w : World} {A : Around} {R : Result → Shared → Prop} {l b : Addr} {its st : List Value} {ls : List (List Value)}
theorem drop_ls {h : Heap} {us : List Value} {ls : List (List Value)} (r : LsAt h us ls) : ∀ i, i < us.length → ∃ a xs, us[i]? = some (.ref a) ∧ h.IsList a xs.toArray ∧ ls.drop i = xs :: ls.drop (i + 1) := by
  induction r with
  | nil => intro i hi; exact absurd hi (Nat.not_lt_zero _)
  | @cons a xs us ls h1 t ih =>
    intro i hi
    cases i with
    | zero => exact ⟨a, xs, rfl, h1, rfl⟩
    | succ i =>
      obtain ⟨a', xs', e1, e2, e3⟩ := ih i (by simpa using hi)
      exact ⟨a', xs', by simpa using e1, e2, by simpa using e3⟩
/-- two lists, joined -/
theorem join2 {A : Around} {s : Shared} {Q : Value → Shared → Prop} {E : Value → Shared → Prop} {a c : Addr} {xs ys : List Value} (ha : s.heap.IsList a xs.toArray) (hc : s.heap.IsList c ys.toArray) (hz : xs.length + ys.length ≤ sizeLine)
    (h : Q (.ref s.heap.objs.size) { s with heap := s.heap.push { cls := .type "list", data := .seq (xs ++ ys).toArray } }) : wpAny (model prog w) A (binaryOp .Add (.ref a) (.ref c)) Q E s := by
  obtain ⟨⟨cls, dd, data, sl⟩, ho, hc1, n, hd⟩ := id ha
  obtain ⟨⟨cls2, dd2, data2, sl2⟩, ho2, hc2, n2, hd2⟩ := id hc
  simp only at hc1 hd hc2 hd2
  subst hc1 hd hc2 hd2
  have e : xs.toArray ++ ys.toArray = (xs ++ ys).toArray := by simp
  refine concat_meets ⟨_, ho, rfl⟩ ⟨_, ho2, rfl⟩ noFill_list_add seq_list_add PySem.F.slot_list_add PySem.F.entry_list_add (PySem.F.args_list_add_2 _ _) (list_addW a c xs.toArray ys.toArray n n2 dd dd2 sl sl2 (by simpa using hz)) ⟨ho, ho2, ?_⟩
  rw [e]
  exact h
theorem sum_lists_loop (hh : A.in1.handled = none) (I S : Addr) (hSI : S ≠ I) (k0 : Heap) (hS0 : k0.objs.size ≤ S) (hI0 : k0.objs.size ≤ I) (hne : its ≠ [])
    (hls : LsAt k0 its ls) (hll : k0.IsList l its.toArray) (sh : Shared) :
    ∀ (k i : Nat) (h : Heap) (tk : Tok) (c : Addr) (acc : List Value) (n : Nat), its.length - i = k → i ≤ its.length → (∀ b o, k0.get? b = some o → h.get? b = some o) → k0.objs.size ≤ h.objs.size →
      h.IsListIter I l i → h.get? S = some { cls := .type "list", dict := none, data := .seq #[.ref c] n } → c ≠ S → c ≠ I → h.IsList c acc.toArray → (i = 0 ∨ k0.objs.size ≤ c ∧ ∃ n', h.get? c = some { cls := .type "list", data := .seq acc.toArray n' }) →
      acc.length + (ls.drop i).flatten.length ≤ sizeLine →
      (∀ h' tk' r, (∀ b o, k0.get? b = some o → h'.get? b = some o) → k0.objs.size ≤ r → (∃ n', h'.get? r = some { cls := .type "list", data := .seq (acc ++ (ls.drop i).flatten).toArray n' }) → R (.ok (.ret (.ref r))) { sh with heap := h', toks := tk' }) →
      codeAny (model prog w) A (.builtin "sum.loop" ⟨[.ref I, .ref S, rawInt 2, rawInt 0], []⟩) R { sh with heap := h, toks := tk } := by
  have isl : ∀ h : Heap, (∀ b o, k0.get? b = some o → h.get? b = some o) → ∀ a xs, k0.IsList a xs → h.IsList a xs := fun h old a xs ⟨o, e, r⟩ => ⟨o, old _ _ e, r⟩
  have below : ∀ b o, k0.get? b = some o → b < k0.objs.size := fun b o e => Heap.lt_size e
  have nI : ∀ b o, k0.get? b = some o → b ≠ I := fun b o e z => Nat.not_lt.mpr hI0 (z ▸ below b o e)
  have nS : ∀ b o, k0.get? b = some o → b ≠ S := fun b o e z => Nat.not_lt.mpr hS0 (z ▸ below b o e)
  intro k
  induction k with
  | zero =>
    intro i h tk c acc n hk hi old hsize hit hS hcS hcI hc hlast hsz hR
    have hin : i = its.length := by omega
    subst hin
    refine codeAny_builtin PySem.F.entry_sum_loop ?_
    rw [Around.under_plainId PySem.F.plain_sum_loop _]
    show wpAny _ A.in1 (seqItems? (.ref S) >>= _) _ _ _
    refine wpAny_bind (wpAny_seqItems hS rfl ?_)
    show wpAny _ A.in1 (tryCatch (pyNext (.ref I)) _ >>= _) _ _ _
    refine wpAny_bind (wpAny_tryCatch (wpAny_pyNext_list_end hh hit (isl h old l _ hll) (by simp) fun h' he' => ?_))
    refine wpAny_pure (hR h' tk c (fun b o e => he' b o (nI b o e) (old b o e)) (hlast.resolve_left fun z => hne (List.length_eq_zero_iff.mp z)).1 ?_)
    have hd : (ls.drop its.length).flatten = [] := by
      rw [List.drop_of_length_le (by rw [hls.len]; exact Nat.le_refl _)]; rfl
    rw [hd, List.append_nil]
    obtain ⟨n', e⟩ := (hlast.resolve_left fun z => hne (List.length_eq_zero_iff.mp z)).2
    exact ⟨n', he' c _ hcI e⟩
  | succ k ih =>
    intro i h tk c acc n hk hi old hsize hit hS hcS hcI hc hlast hsz hR
    have hlt : i < its.length := by omega
    obtain ⟨a, xs, e1, e2, e3⟩ := drop_ls hls i hlt
    refine codeAny_builtin PySem.F.entry_sum_loop ?_
    rw [Around.under_plainId PySem.F.plain_sum_loop _]
    show wpAny _ A.in1 (seqItems? (.ref S) >>= _) _ _ _
    refine wpAny_bind (wpAny_seqItems hS rfl ?_)
    show wpAny _ A.in1 (tryCatch (pyNext (.ref I)) _ >>= _) _ _ _
    refine wpAny_bind (wpAny_tryCatch (wpAny_pyNext_list_item hit (isl h old l _ hll) (x := .ref a) (by simpa using e1) fun h' hit' sb => ?_))
    have old' : ∀ b o, k0.get? b = some o → h'.get? b = some o := fun b o e => by
      rw [sb.2 b (nI b o e)]; exact old b o e
    have hS' : h'.get? S = some { cls := .type "list", dict := none, data := .seq #[.ref c] n } := by rw [sb.2 S hSI]; exact hS
    have hc' : h'.IsList c acc.toArray := by obtain ⟨o, e, r⟩ := hc; exact ⟨o, (sb.2 c hcI).trans e, r⟩
    have hsize' : k0.objs.size ≤ h'.objs.size := Nat.le_trans hsize (Nat.le_of_eq sb.1.symm)
    have hIlt : I < h'.objs.size := by obtain ⟨o, e, _⟩ := hit'; exact Heap.lt_size e
    have hSlt : S < h'.objs.size := Heap.lt_size hS'
    have hz : acc.length + xs.length ≤ sizeLine := by
      rw [e3, List.flatten_cons, List.length_append] at hsz; omega
    show wpAny _ A.in1 ((holding [Value.ref a] (binaryOp .Add (.ref c) (.ref a))).attempt >>= _) _ _ _
    refine wpAny_bind (wpAny_attempt (wpAny_holding (join2 hc' (isl h' old' a _ e2) hz ?_)))
    have keep1 : ∀ b o, h'.get? b = some o → (h'.push { cls := .type "list", data := .seq (acc ++ xs).toArray }).get? b = some o := fun b o e => Heap.get?_push_of_some _ e
    show wpAny _ A.in1 (updateSeq S (fun _ => #[Value.ref h'.objs.size]) >>= _) _ _ _
    refine wpAny_bind (wpAny_updateSeq (keep1 _ _ hS') rfl ?_)
    refine wpAny_bind (wpAny_letGo ?_)
    show wpAny _ A.in1 (updateSeq S (fun _ => #[Value.ref h'.objs.size]) >>= _) _ _ _
    have hS2 := Heap.get?_update_self (Obj.mapSeq fun _ => #[Value.ref h'.objs.size]) (keep1 _ _ hS') rfl
    refine wpAny_bind (wpAny_updateSeq hS2 rfl (wpAny_pure ⟨plainId_quiet PySem.F.plain_sum_loop _, ?_⟩))
    have oth : ∀ b o, b ≠ S → h'.get? b = some o → (((h'.push { cls := .type "list", data := .seq (acc ++ xs).toArray }).update S (Obj.mapSeq fun _ => #[Value.ref h'.objs.size])).update S (Obj.mapSeq fun _ => #[Value.ref h'.objs.size])).get? b = some o := fun b o n e =>
      (Heap.get?_update_other _ _ (fun z => n z.symm)).trans ((Heap.get?_update_other _ _ (fun z => n z.symm)).trans (keep1 b o e))
    refine ih (i + 1) _ _ h'.objs.size (acc ++ xs) _ (by omega) hlt (fun b o e => oth b o (nS b o e) (old' b o e)) ?_ ?_ (Heap.get?_update_self _ hS2 rfl) (Nat.ne_of_gt hSlt) (Nat.ne_of_gt hIlt) ?_ (.inr ⟨hsize', _, (Heap.get?_update_other _ _ (Nat.ne_of_lt hSlt)).trans ((Heap.get?_update_other _ _ (Nat.ne_of_lt hSlt)).trans (Heap.get?_push_size _ rfl))⟩) ?_ ?_
    · rw [Heap.size_update, Heap.size_update, Heap.size_push]; exact Nat.le_trans hsize' (Nat.le_succ _)
    · obtain ⟨o, e, r⟩ := hit'; exact ⟨o, oth I o (fun z => hSI z.symm) e, r⟩
    · exact ⟨_, (Heap.get?_update_other _ _ (Nat.ne_of_lt hSlt)).trans ((Heap.get?_update_other _ _ (Nat.ne_of_lt hSlt)).trans (Heap.get?_push_size _ rfl)), rfl, _, rfl⟩
    · rw [e3, List.flatten_cons, List.length_append] at hsz; rw [List.length_append]; omega
    · intro h2 tk' r o2 hr hl2
      refine hR h2 tk' r o2 hr ?_
      rw [e3, List.flatten_cons, ← List.append_assoc]; exact hl2
end
theorem args_sum2 (a b : Value) : argsOk "sum" ⟨[a, b], []⟩ := by unfold argsOk; kernel_rfl
section
variable {prog : Program} {w : World} {A : Around} {E : Value → Shared → Prop} {s : Shared} {l b : Addr} {its st : List Value} {ls : List (List Value)}
theorem sum_lists_raw {Q : Value → Shared → Prop} (hh : A.handled = none) (hl : s.heap.IsList l its.toArray) (hb : s.heap.IsList b st.toArray) (hls : LsAt s.heap its ls) (hne : its ≠ []) (hz : st.length + ls.flatten.length ≤ sizeLine)
    (h : ∀ h' tk r, (∀ b o, s.heap.get? b = some o → h'.get? b = some o) → s.heap.objs.size ≤ r → (∃ n', h'.get? r = some { cls := .type "list", data := .seq (st ++ ls.flatten).toArray n' }) → Q (.ref r) { s with heap := h', toks := tk }) :
    wpAny (model prog w) A (call (.builtin "sum") [.ref l, .ref b]) Q E s := by
  refine call_function_tree PySem.F.kind_sum PySem.F.plain_sum PySem.F.entry_sum (args_sum2 _ _) ?_
  have hlt : l < s.heap.objs.size := by obtain ⟨_, e, _⟩ := hl; exact Heap.lt_size e
  have hbt : b < s.heap.objs.size := by obtain ⟨_, e, _⟩ := hb; exact Heap.lt_size e
  unfold Builtin.«sum»
  simp only [List.length_cons, List.length_nil]
  rw [if_neg (by decide)]
  refine wpAny_bind (wpAny_of_eq (show Builtin.Builtins.bindParams "sum" ["start"] 0 ⟨[.ref b], []⟩ = pure [some (.ref b)] from rfl) ?_)
  refine wpAny_bind (wpAny_pyIter_list hl ?_)
  have hbI : (s.heap.push { cls := .type "list_iterator", data := .fields #[.ref l, .int 0 0] }).IsList b st.toArray := hb.push _
  have hT : Shared.TypeIs { s with heap := s.heap.push { cls := .type "list_iterator", data := .fields #[.ref l, .int 0 0] } } (.ref b) "list" := by obtain ⟨o, e, r, _⟩ := hbI; exact ⟨o, e, r⟩
  refine wpAny_bind (wpAny_pure ?_)
  simp only [List.forIn_cons, List.forIn_nil]
  refine wpAny_bind (wpAny_bind (wpAny_bind (wpAny_isInstance (T := "list") (b := false) hT PySem.F.sub_list_str ?_)))
  simp only [Bool.false_eq_true, if_false]
  refine wpAny_pure (wpAny_bind (wpAny_bind (wpAny_isInstance (T := "list") (b := false) hT PySem.F.sub_list_bytes ?_)))
  simp only [Bool.false_eq_true, if_false]
  refine wpAny_pure (wpAny_bind (wpAny_bind (wpAny_isInstance (T := "list") (b := false) hT (by rw [isSubtype_type]; kernel_rfl) ?_)))
  simp only [Bool.false_eq_true, if_false]
  refine wpAny_pure (wpAny_pure ?_)
  refine wpAny_bind (wpAny_newObj_type ?_)
  have keep : ∀ c o, s.heap.get? c = some o → (((s.heap.push { cls := .type "list_iterator", data := .fields #[.ref l, .int 0 0] }).push { cls := .type "list", data := .seq #[.ref b] }).get? c = some o) := fun c o e => Heap.get?_push_of_some _ (Heap.get?_push_of_some _ e)
  have hsz : (s.heap.push { cls := .type "list_iterator", data := .fields #[.ref l, .int 0 0] }).objs.size = s.heap.objs.size + 1 := Heap.size_push _ _
  refine wpAny_pure ⟨plainId_quiet PySem.F.plain_sum_loop _, sum_lists_loop (A := A) (by simpa using hh) s.heap.objs.size _ (by rw [hsz]; exact Nat.succ_ne_self _) s.heap (by rw [hsz]; exact Nat.le_succ _) (Nat.le_refl _) hne hls hl s its.length 0 _ _ b st _ rfl (Nat.zero_le _) keep ?_ ?_ (Heap.get?_push_size _ rfl) ?_ (Nat.ne_of_lt hbt) ?_ (.inl rfl) hz fun h' tk r o hr e => ?_⟩
  · rw [Heap.size_push, hsz]; exact Nat.le_trans (Nat.le_succ _) (Nat.le_succ _)
  · exact ⟨_, Heap.get?_push_of_some _ (Heap.get?_push_size _ rfl), rfl, rfl⟩
  · rw [hsz]; exact Nat.ne_of_lt (Nat.lt_succ_of_lt hbt)
  · obtain ⟨o, e, r⟩ := hb; exact ⟨o, keep _ _ e, r⟩
  · exact h h' tk r o hr e
end

/-! ### the call -/
inductive LsV (K : PySem.W.Frag) (H : Hp) : List V → List (List V) → Prop where
  | nil : LsV K H [] []
  | cons {a : Addr} {w : List V} {xs : List V} {ws : List (List V)} : SqL K H a w → LsV K H xs ws → LsV K H (.ref a :: xs) (w :: ws)
section
variable {X : Cx}
theorem ls_at {pins : List (Addr × Obj)} {σ : L2.St} {H : Hp} {s : Shared} (I : Inv X pins σ H s) : ∀ {xs : List V} {ws : List (List V)} {us : List Value}, LsV X.K H xs ws → Vals xs us → ∃ ls, LsAt s.heap us ls ∧ Vals ws.flatten ls.flatten
  | _, _, _, .nil, .nil => ⟨[], .nil, .nil⟩
  | _, _, _, .cons h t, .cons r rr => by
    obtain ⟨ls, h1, h2⟩ := ls_at I t rr
    obtain ⟨its, rv, hl, _⟩ := I.list h
    cases r
    exact ⟨its :: ls, .cons hl.isList h1, Vals.append rv h2⟩
def rSumL (K : PySem.W.Frag) : List V → Hp → VK → Prop := fun vs H Q => ∃ (a b : Addr) (xs ys : List V) (ws : List (List V)), vs = [V.ref a, V.ref b] ∧ SqL K H a xs ∧ SqL K H b ys ∧ LsV K H xs ws ∧ xs ≠ [] ∧
  ys.length + ws.flatten.length ≤ sizeLine ∧ ∀ p, H p = none → Q (.ref p) (upd H p (.lst (ys ++ ws.flatten)))
theorem cr_sumL (hc : X.calm = true) : CallR X (.builtin "sum") (rSumL X.K) := by
  intro pins s σ H vs us Q I r h
  obtain ⟨a, b, xs, ys, ws, rfl, hx, hy, hw, hne, hz, q⟩ := h
  obtain ⟨its, rv, hl, _⟩ := I.list hx
  obtain ⟨its2, rv2, hl2, _⟩ := I.list hy
  obtain ⟨ls, h1, h2⟩ := ls_at I hw rv
  have eu : us = [Value.ref a, Value.ref b] := by
    cases r with | cons r rr => cases r; cases rr with | cons r rr => cases r; cases rr; rfl
  rw [eu]
  have e1 := rv2.length
  have e2 := h2.length
  refine sum_lists_raw (I.ok.hd hc) hl.isList hl2.isList h1 (fun z => hne ?_) (by rw [← e1, ← e2]; exact hz) fun h' tk rr o hr ⟨n', e⟩ => ?_
  · have := rv.length; rw [z] at this; exact List.length_eq_zero_iff.mp this
  · exact ⟨.ref rr, upd H rr (.lst (ys ++ ws.flatten)), I.laid o hr ⟨by rw [List.length_append]; exact hz, _, _, Vals.append rv2 h2, e⟩, rfl, q rr (I.hok.fresh hr)⟩
end
end EV

namespace EV
open PySem PySem.Spec PyProof.Rows L2
section
variable {X : Cx} {b : Bool} {e e1 e2 e3 : Expr} {es : List Expr} {pos p : Pos} {f f1 f2 f3 : List Sl → Option D} {fs : List Sl → Option (List D)}
def isStar : Expr → Bool
  | .Starred _ _ => true
  | _ => false
theorem star_no (h : isStar e = false) : ∀ e' p, e ≠ .Starred e' p := fun e' p z => by subst z; cases h
theorem stars_no {env : Env} : ∀ {es : List Expr}, (∀ e ∈ es, isStar e = false) → (backTo pos (starEach es env)).any (·.1) = false
  | [], _ => rfl
  | e :: es, h => by
    rw [starEach_cons (star_no (h e List.mem_cons_self))]
    show (false || (backTo pos (starEach es env)).any (·.1)) = false
    rw [stars_no fun e he => h e (List.mem_cons_of_mem _ he)]; rfl
theorem bFindIn_ok {f : Str} {bi : BI} : ∀ {l : List BI}, bFindIn f l = some bi → f = bName bi
  | [], h => by cases h
  | b :: r, h => by
    unfold bFindIn at h
    by_cases e : bName b = f
    · rw [decide_eq_true e] at h; cases h; exact e.symm
    · rw [decide_eq_false e] at h; exact bFindIn_ok h
theorem tFindIn_ok {f : Str} {t : Ty} : ∀ {l : List Ty}, tFindIn f l = some t → f = tName t
  | [], h => by cases h
  | b :: r, h => by
    unfold tFindIn at h
    by_cases e : tName b = f
    · rw [decide_eq_true e] at h; cases h; exact e.symm
    · rw [decide_eq_false e] at h; exact tFindIn_ok h
/-! ### built-ins -/
def rB (K : PySem.W.Frag) (w : World) (g : List D → Option D) : List V → Hp → VK → Prop := fun vs H Q => ∃ O b ds d, OkO O H ∧ RoBs K w O H b vs ds ∧ g ds = some d ∧ ∀ H' v, Same H H' → Ro K w O H' v d → Q v H'
def bVal : BI → Value
  | .len => .builtin "len" | .abs => .builtin "abs" | .int => .type "int" | .min => .builtin "min" | .max => .builtin "max" | .all => .builtin "all" | .any => .builtin "any" | .sum => .builtin "sum" | .tuple => .type "tuple" | .repr => .builtin "repr" | .sorted => .builtin "sorted"
theorem bls_of {K : PySem.W.Frag} {w : World} {O : Addr → Prop} {H : Hp} : ∀ {vs : List V} {ds : List D} {bs : List Bool}, RoAll K w O H vs ds → boolsD ds = some bs → vs = bs.map V.bl
  | _, _, _, .nil, e => by cases e; rfl
  | _, _, _, .cons h t, e => by
    unfold boolsD mapO at e
    obtain ⟨x, e1, e⟩ := bind_some e
    obtain ⟨xs, e2, e⟩ := bind_some e
    cases e
    split at e1
    · cases e1
      have : RoB K w O H false _ _ := .inl h
      rw [this.bl, bls_of t e2]; rfl
    · cases e1
theorem kints_of {K : PySem.W.Frag} {w : World} {O : Addr → Prop} {H : Hp} : ∀ {vs : List V} {ds : List D} {bs : List Int}, RoAll K w O H vs ds → intsD ds = some bs → vs = bs.map V.int
  | _, _, _, .nil, e => by cases e; rfl
  | _, _, _, .cons h t, e => by
    unfold intsD mapO at e
    obtain ⟨x, e1, e⟩ := bind_some e
    obtain ⟨xs, e2, e⟩ := bind_some e
    cases e
    split at e1
    · cases e1
      have : RoB K w O H false _ _ := .inl h
      rw [this.int, kints_of t e2]; rfl
    · cases e1
theorem lsV_of {K : PySem.W.Frag} {w : World} {O : Addr → Prop} {H : Hp} : ∀ {vs : List V} {ds : List D} {ls : List (List D)}, RoAll K w O H vs ds → listsD ds = some ls → ∃ ws, LsV K H vs ws ∧ RoAll K w O H ws.flatten ls.flatten
  | _, _, _, .nil, e => by cases e; exact ⟨[], .nil, .nil⟩
  | _, _, _, .cons h t, e => by
    unfold listsD mapO at e
    obtain ⟨x, e1, e⟩ := bind_some e
    obtain ⟨xs, e2, e⟩ := bind_some e
    cases e
    split at e1
    · cases e1
      obtain ⟨ws, h1, h2⟩ := lsV_of t e2
      obtain ⟨a, vs, rfl, h3, h4⟩ := (show RoB K w O H false _ _ from .inl h).list
      exact ⟨vs :: ws, .cons h3 h1, h4.app h2⟩
    · cases e1
theorem maxF_ok : ∀ (r : List Int) (x : Int), r.foldl (fun a b => cond (decide (a < b)) b a) x ∈ x :: r ∧ ∀ y ∈ x :: r, y ≤ r.foldl (fun a b => cond (decide (a < b)) b a) x
  | [], x => ⟨List.mem_cons_self, fun y hy => by rw [List.mem_singleton.mp hy]; exact Int.le_refl _⟩
  | z :: r, x => by
    rw [List.foldl_cons]
    by_cases h : x < z
    · rw [decide_eq_true h, cond_true]
      obtain ⟨m1, m2⟩ := maxF_ok r z
      refine ⟨List.mem_cons_of_mem _ m1, fun y hy => ?_⟩
      rcases List.mem_cons.mp hy with rfl | hy
      · exact Int.le_trans (Int.le_of_lt h) (m2 z List.mem_cons_self)
      · exact m2 y hy
    · rw [decide_eq_false h, cond_false]
      obtain ⟨m1, m2⟩ := maxF_ok r x
      refine ⟨?_, fun y hy => ?_⟩
      · rcases List.mem_cons.mp m1 with m1 | m1
        · rw [m1]; exact List.mem_cons_self
        · exact List.mem_cons_of_mem _ (List.mem_cons_of_mem _ m1)
      · rcases List.mem_cons.mp hy with rfl | hy
        · exact m2 _ List.mem_cons_self
        · rcases List.mem_cons.mp hy with rfl | hy
          · exact Int.le_trans (by omega) (m2 x List.mem_cons_self)
          · exact m2 y (List.mem_cons_of_mem _ hy)
theorem call_D (hc : X.calm = true) (hu : X.A.units + 65 < cLine) (hgd : X.A.guards = some []) (bi : BI) : CallR X (bVal bi) (rB X.K X.w (bD bi)) := by
  intro pins s σ H xs us Q I rx ⟨O, b, ds, d, hO, hx, e, q⟩
  unfold bD at e
  split at e
  · cases hx with | cons h t => cases t; cases e; obtain ⟨a, vs, rfl, h1, h2⟩ := h.list; exact call_len_seq pins s σ H _ us Q I rx ⟨a, vs, rfl, .inl h1, by rw [h2.length]; exact q H _ (Same.refl H) (.int _)⟩
  · cases hx with | cons h t => cases t; cases e; obtain ⟨a, vs, rfl, h1, h2⟩ := h.tup; exact call_len_seq pins s σ H _ us Q I rx ⟨a, vs, rfl, .inr h1, by rw [h2.length]; exact q H _ (Same.refl H) (.int _)⟩
  · cases hx with | cons h t => cases t; cases e; cases h.int; refine call_abs pins s σ H _ us Q I rx ⟨_, rfl, q H _ (Same.refl H) ?_⟩; (split <;> rename_i hi <;> simp [hi] <;> exact .int _)
  · cases hx with | cons h t => cases t; cases e; cases h.int; exact call_int1 pins s σ H _ us Q I rx (.inl ⟨_, rfl, q H _ (Same.refl H) (.int _)⟩)
  · cases hx with | cons h t => cases t; cases e; cases h.bl; refine call_int1 pins s σ H _ us Q I rx (.inr ⟨_, rfl, q H _ (Same.refl H) ?_⟩); (split <;> rename_i hi <;> simp [hi] <;> exact .int _)
  · cases hx with | cons h t => cases t with | cons h' t => cases t; cases e; cases h.int; cases h'.int; refine call_min2 hc pins s σ H _ us Q I rx ⟨_, _, rfl, q H _ (Same.refl H) ?_⟩; (split <;> rename_i hi <;> simp [hi] <;> exact .int _)
  · cases hx with | cons h t => cases t with | cons h' t => cases t; cases e; cases h.int; cases h'.int; refine call_max2 hc pins s σ H _ us Q I rx ⟨_, _, rfl, q H _ (Same.refl H) ?_⟩; (split <;> rename_i hi <;> simp [hi] <;> exact .int _)
  · cases hx with | cons h t =>
      cases t
      obtain ⟨bs, e1, e⟩ := bind_some e
      obtain ⟨a, vs, rfl, h1, h2⟩ := h.list
      cases bs with
      | nil => cases e
      | cons x r =>
        have e := Option.some.inj e
        obtain ⟨m1, m2⟩ := maxF_ok r x
        refine cr_max hc pins s σ H _ us Q I rx ⟨a, x :: r, rfl, by rw [← kints_of h2 e1]; exact h1, by simp, fun m hm hle => ?_⟩
        have em : m = r.foldl (fun a b => cond (decide (a < b)) b a) x := Int.le_antisymm (m2 m hm) (hle _ m1)
        rw [em]
        exact q H _ (Same.refl H) (by rw [← e]; exact .int _)
  · cases hx with | cons h t =>
      cases t
      obtain ⟨bs, e1, e⟩ := Option.map_eq_some_iff.mp e
      subst e
      obtain ⟨a, vs, rfl, h1, h2⟩ := h.list
      exact cr_all hc pins s σ H _ us Q I rx ⟨a, bs, rfl, by rw [← bls_of h2 e1]; exact h1, q H _ (Same.refl H) (.bl _)⟩
  · cases hx with | cons h t =>
      cases t
      obtain ⟨bs, e1, e⟩ := Option.map_eq_some_iff.mp e
      subst e
      obtain ⟨a, vs, rfl, h1, h2⟩ := h.list
      exact cr_any hc pins s σ H _ us Q I rx ⟨a, bs, rfl, by rw [← bls_of h2 e1]; exact h1, q H _ (Same.refl H) (.bl _)⟩
  · cases hx with | cons h t =>
      cases t
      obtain ⟨bs, e1, e⟩ := Option.map_eq_some_iff.mp e
      subst e
      obtain ⟨a, vs, rfl, h1, h2⟩ := h.list
      exact cr_sum hc pins s σ H _ us Q I rx ⟨a, bs, rfl, by rw [← kints_of h2 e1]; exact h1, q H _ (Same.refl H) (.int _)⟩
  · cases hx with | cons h t => cases t with | cons h' t =>
      cases t
      obtain ⟨ls, e1, e⟩ := bind_some e
      obtain ⟨c, e⟩ := cond_some e
      cases e
      obtain ⟨a, vs, rfl, h1, h2⟩ := h.list
      obtain ⟨a', vs', rfl, h1', h2'⟩ := h'.list
      obtain ⟨ws, h3, h4⟩ := lsV_of h2 e1
      have hf := few_line
      have c := of_decide_eq_true c
      refine cr_sumL hc pins s σ H _ us Q I rx ⟨a, a', vs, vs', ws, rfl, h1, h1', h3, ?_, ?_, fun p hp => q _ _ (same_upd hp) (Ro.newL hO hp (h2'.app h4))⟩
      · intro z; rw [z] at h2; cases h2
      · rw [h4.length, h2'.length]; omega
  · cases hx with | cons h t => cases t; cases e; obtain ⟨a, vs, rfl, h1, h2⟩ := h.list; exact call_tuple_of pins s σ H _ us Q I rx ⟨a, vs, rfl, .inl ⟨h1, fun l hl => q _ _ (same_upd hl) (Ro.newT hl h2)⟩⟩
  · cases hx with | cons h t => cases t; cases e; obtain ⟨a, vs, rfl, h1, h2⟩ := h.tup; exact call_tuple_of pins s σ H _ us Q I rx ⟨a, vs, rfl, .inr ⟨h1, q _ _ (Same.refl H) (.tup h1 h2)⟩⟩
  · exact call_reprX hu hgd pins s σ H _ us Q I rx ⟨O, b, _, d, hO, hx, e, q⟩
  · exact call_sortedX hu pins s σ H _ us Q I rx ⟨O, b, _, d, hO, hx, e, q⟩
  · cases e
theorem bBoot (bi : BI) : bootBuiltins (bName bi) = some (bVal bi) := by cases bi <;> decide +kernel
theorem bBad (bi : BI) : bName bi ≠ "__name__" ∧ (bName bi == ("__debug__" : Str)) = false := by cases bi <;> decide +kernel
theorem se_builtin {bi : BI} (hc : X.calm = true) (hu : X.A.units + 65 < cLine) (hgd : X.A.guards = some []) (hg : Gl X (bName bi)) (hm : X.mg (bName bi) = none) (he : isStar e = false) (hes : ∀ e ∈ es, isStar e = false) (ha : SA X true (e :: es) fs) :
    SE X b (.Call (.Name (bName bi) p) (e :: es) [] pos) fun σ => (fs σ).bind (bD bi) := by
  have key : ∀ {t : TE}, PE X (.Call (.Name (bName bi) p) (e :: es) [] pos) t → t = tCB (rB X.K X.w (bD bi)) (tA X.K X.w true fs) → SE X b (.Call (.Name (bName bi) p) (e :: es) [] pos) fun σ => (fs σ).bind (bD bi) := fun {t} h et => by
    subst et
    refine h.imp fun σ H Q ⟨O, Ow, es, d, hO, F, e, q⟩ => ?_
    obtain ⟨ds, e1, e⟩ := bind_some e
    exact ⟨O, Ow, es, ds, hO, F, e1, fun H1 vs s1 r1 => ⟨O, true, ds, d, hO.same s1, r1, e, fun H2 v s2 r2 => q H2 v (s1.trans s2) (.inl r2)⟩⟩
  have hb := bBoot bi
  have hd := call_D hc hu hgd bi
  obtain ⟨n1, n2⟩ := bBad bi
  cases h : bVal bi with
  | builtin id => rw [h] at hb hd; exact key (pe_callB hd hg hm hb ha n1 n2 (starEach_cons (star_no he) _) (stars_no hes)) rfl
  | type T => rw [h] at hb hd; exact key (pe_callTy hd hg hm hb ha n1 n2 (starEach_cons (star_no he) _) (stars_no hes)) rfl
  | _ => cases bi <;> cases h
/-! ### isinstance -/
def tyOfD : D → Option String
  | .none => some "NoneType"
  | .bool _ => some "bool"
  | .int _ => some "int"
  | .str _ => some "str"
  | .list _ => some "list"
  | .tuple _ => some "tuple"
  | .dict _ => none
theorem isTy_kit {t : Ty} {d : D} {k : Bool} {a : String} (h : isTy t d = some k) (ha : tyOfD d = some a) : kitB a (tString t) = some k := by
  cases d <;> cases ha <;> cases h <;> cases t <;> decide +kernel
theorem tBoot (t : Ty) : bootBuiltins (tName t) = some (.type (tString t)) := by cases t <;> decide +kernel
theorem tBad (t : Ty) : tName t ≠ "__name__" ∧ (tName t == ("__debug__" : Str)) = false := by cases t <;> decide +kernel
theorem RoB.tyx {K : PySem.W.Frag} {w : World} {O : Addr → Prop} {H : Hp} {v : V} {d : D} {a : String} (h : RoB K w O H b v d) (ha : tyOfD d = some a) : TyX K H v (.type a) := by
  cases d with
  | none => cases ha; cases h.non; exact .base .non
  | bool x => cases ha; cases h.bl; exact .base (.bl _)
  | int x => cases ha; cases h.int; exact .base (.int _)
  | str x => cases ha; obtain ⟨rfl, _⟩ := h.str; exact .base (.str _)
  | list x =>
    cases ha
    obtain ⟨a, vs, rfl, h1, h2⟩ := h.list
    rcases h1 with (h1 | ⟨o, h1⟩) | ⟨o, its, n, h1, h2, _⟩
    · exact .base (.lst h1)
    · exact .base (.frz h1)
    · exact .kList h1 h2
  | tuple x =>
    cases ha
    obtain ⟨a, vs, rfl, h1, h2⟩ := h.tup
    rcases h1 with (h1 | ⟨o, h1⟩) | ⟨o, its, n, h1, h2, _⟩
    · exact .base (.tup h1)
    · exact .fTuple h1
    · exact .kTuple h1 h2
  | dict x => cases ha
theorem se_isi {t : Ty} {x : Str} {p2 : Pos} (hx : x = "isinstance") (hg : Gl X x) (hm : X.mg x = none) (hgt : Gl X (tName t)) (hmt : X.mg (tName t) = none) (he : isStar e = false) (h : SE X true e f) :
    SE X b (.Call (.Name x p) [e, .Name (tName t) p2] [] pos) fun σ => (f σ).bind fun d => (isTy t d).map .bool := by
  subst hx
  have ht : PE X (.Name (tName t) p2) (tC (.ty (tString t))) := pe_bltn hgt hmt (tBoot t) rfl (tBad t).1 (tBad t).2
  refine (pe_callB call_isi hg hm (by decide +kernel) (pa_cons h (pa_cons ht pa_nil) (starEach_cons (star_no he) _)) (by decide +kernel) (by decide +kernel) (starEach_cons (star_no he) _)).imp fun σ H Q ⟨O, Ow, es, d, hO, F, e, q⟩ => ?_
  obtain ⟨x, e1, e⟩ := bind_some e
  obtain ⟨k, e2, e⟩ := Option.map_eq_some_iff.mp e
  subst e
  have hx : ∃ a, tyOfD x = some a := by cases x <;> first | exact ⟨_, rfl⟩ | cases e2
  obtain ⟨a, ha⟩ := hx
  refine ⟨O, Ow, es, x, hO, F, e1, fun H1 v s1 r1 => ?_⟩
  exact ⟨v, .ty (tString t), .type a, .type (tString t), k, rfl, .ty _, r1.tyx ha, kit_ty (isTy_kit e2 ha), q H1 _ s1 (.inl (.bl k))⟩
/-! ### calls of the text's defs -/
def spD (K : PySem.W.Frag) (w : World) (g : List D → Option D) : Sp := fun vs H Q _ => ∃ O ds d, OkO O H ∧ RoAll K w O H vs ds ∧ g ds = some d ∧ ∀ H' v, Same H H' → Ro K w O H' v d → Q v H'
structure CallOk (X : Cx) (k : Nat) (f : Str) (g : List D → Option D) : Prop where
  ex : ∃ fa fd ps, FnG X.prog X.w X.K X.mg X.base k fa fd ps (spD X.K X.w g) ∧ X.mg f = some (.ref fa) ∧ PySem.W.keepIn X.K (.ref fa) = true ∧ Binds X.K fd ps []
theorem se_call {k : Nat} {x : Str} {g : List D → Option D} (c : CallOk X k x g) (hr : Room k X.A) (hgd : X.A.guards = some []) (hg : Gl X x) (hd : (x == ("__debug__" : Str)) = false) (he : isStar e = false) (hes : ∀ e ∈ es, isStar e = false) (ha : SA X false (e :: es) fs) :
    SE X b (.Call (.Name x p) (e :: es) [] pos) fun σ => (fs σ).bind g := by
  obtain ⟨fa, fd, ps, F, hm, hk, hb⟩ := c.ex
  refine (pe_callG F hr hgd hg hm hk hb ha hd (starEach_cons (star_no he) _) (stars_no hes)).imp fun σ H Q ⟨O, Ow, es, d, hO, F, e, q⟩ => ?_
  obtain ⟨ds, e1, e⟩ := bind_some e
  exact ⟨O, Ow, es, ds, hO, F, e1, fun H1 vs s1 r1 => ⟨O, ds, d, hO.same s1, by rw [List.append_nil]; exact r1.all, e, fun H2 v s2 r2 => q H2 v (s1.trans s2) (.inl r2)⟩⟩
/-! ### own exceptions as data -/
theorem RoB.exc {K : PySem.W.Frag} {w : World} {O : Addr → Prop} {H : Hp} {b : Bool} {v : V} {x : Str} {d : D} (h : RoB K w O H b v (excD x d)) : ∃ a dx C u, v = .ref a ∧ H a = some (exoA a C dx) ∧ H dx = some (.xd [("at", u)]) ∧ PySem.W.nsIn K mainGlobals x = some (some (.ref C)) ∧ Ro K w O H u d := by
  rcases h with h | ⟨_, a, xs, ds', h1, h2, h3, h4⟩
  · generalize hd : excD x d = dd at h
    unfold excD at hd
    cases h with
    | @kdc a es n ps ds h1 h2 h3 h4 =>
      have hd := PyData.dict.inj hd
      cases ps with
      | nil => cases hd
      | cons p ps =>
        cases ds with
        | nil => cases hd
        | cons d0 ds =>
          simp only [List.map_cons, List.zip_cons_cons] at hd
          have := (List.cons.inj hd).1
          cases this
    | exc h1 h2 h3 h4 =>
      unfold excD at hd
      cases hd
      exact ⟨_, _, _, _, rfl, h1, h2, h3, h4⟩
    | _ => cases hd
  · cases h2
def IsiOk (K : PySem.W.Frag) (mg : Str → Option Value) (i : Str → D → Option D) : Prop := ∀ t, (∀ d, i t d = none) ∨ ∃ (cv : Value) (c : V), RelV c cv ∧ (∀ u, RelV c u → u = cv) ∧ (mg t = some cv ∨ (mg t = none ∧ bootBuiltins t = some cv ∧ t ≠ "__name__")) ∧
  ∀ d r, i t d = some r → ∃ x v b, d = excD x v ∧ r = .bool b ∧ ∀ C, PySem.W.nsIn K mainGlobals x = some (some (.ref C)) → ExcR K C ∧ PySem.W.kitOne K (.ref C) cv = some b
def AttOk (K : PySem.W.Frag) (a : Str → D → Option D) : Prop := ∀ t d r, a t d = some r → t = "at" ∧ ∃ x, d = excD x r ∧ ∀ C, PySem.W.nsIn K mainGlobals x = some (some (.ref C)) → ExcR K C
theorem se_no : SE X b e fun _ => none := ⟨fun _ _ _ _ _ _ ⟨O, Ow, es, d, hO, F, e, q⟩ => by cases e⟩
theorem se_mk {k : Nat} {x : Str} (T : ExcAt X.prog X.K X.mg x) (hr : Room (k + 1) X.A) (hg : Gl X x) (hd : (x == ("__debug__" : Str)) = false) (he : isStar e = false) (hes : ∀ e ∈ es, isStar e = false) (ha : SA X false (e :: es) fs) :
    SE X b (.Call (.Name x p) (e :: es) [] pos) fun σ => (fs σ).bind (mkD x) := by
  refine (pe_mkE (k := k) T hr hg ha hd (starEach_cons (star_no he) _) (stars_no hes)).imp fun σ H Q ⟨O, Ow, es, d, hO, F, e, q⟩ => ?_
  obtain ⟨ds, e1, e⟩ := bind_some e
  refine ⟨O, Ow, es, ds, hO, F, e1, fun H1 vs s1 r1 => ?_⟩
  unfold mkD at e
  split at e
  · rename_i v
    cases e
    cases r1 with
    | @cons vv _ _ _ r0 rr =>
      cases rr
      refine ⟨vv, rfl, fun a dx C n1 n2 ne hns => ?_⟩
      have s2 : Same H1 (upd (upd H1 dx (.xd [("at", vv)])) a (exoA a C dx)) := (same_upd n2).trans (same_upd (by rw [upd_ne ne]; exact n1))
      exact q _ _ (s1.trans s2) (.inl (.exc upd_same (by rw [upd_ne (Ne.symm ne), upd_same]) hns (r0.no.same s2)))
  · cases e
theorem se_isi2 {i : Str → D → Option D} {x t : Str} {p2 : Pos} (I : IsiOk X.K X.mg i) (hx : x = "isinstance") (hg : Gl X x) (hm : X.mg x = none) (hgt : Gl X t) (hdt : (t == ("__debug__" : Str)) = false) (he : isStar e = false) (h : SE X true e f) :
    SE X b (.Call (.Name x p) [e, .Name t p2] [] pos) fun σ => (f σ).bind fun d => i t d := by
  subst hx
  rcases I t with h0 | ⟨cv, c, rc, uc, hmt, hi⟩
  · refine se_no.eqf fun σ d hd => ?_
    obtain ⟨y, _, e2⟩ := bind_some hd
    rw [h0] at e2
    cases e2
  · have ht : PE X (.Name t p2) (tC c) := by
      rcases hmt with hmt | ⟨h1, h2, h3⟩
      · exact pe_glob hgt hmt rc hdt
      · exact pe_bltn hgt h1 h2 rc h3 hdt
    refine (pe_callB call_isA hg hm (by decide +kernel) (pa_cons h (pa_cons ht pa_nil) (starEach_cons (star_no he) _)) (by decide +kernel) (by decide +kernel) (starEach_cons (star_no he) _)).imp fun σ H Q ⟨O, Ow, es, d, hO, F, e, q⟩ => ?_
    obtain ⟨y, e1, e⟩ := bind_some e
    obtain ⟨x, v, bb, rfl, rfl, hc⟩ := hi _ _ e
    refine ⟨O, Ow, es, _, hO, F, e1, fun H1 u s1 r1 => ?_⟩
    obtain ⟨a, dx, C, w, rfl, h1, h2, h3, h4⟩ := r1.exc
    obtain ⟨R, hk⟩ := hc C h3
    exact ⟨a, dx, C, w, c, cv, bb, rfl, h1, h2, R, uc, fun _ => .inr trivial, hk, q H1 _ s1 (.inl (.bl bb))⟩
theorem se_at {att : Str → D → Option D} {a : Str} (A : AttOk X.K att) (hb : attributeBase e "at" X.env (eval e X.env) = eval e X.env) (h : SE X true e f) : SE X b (.Attribute e a pos) fun σ => (f σ).bind fun d => att a d := by
  by_cases ha : a = "at"
  · subst ha
    refine (pe_at h hb).imp fun σ H Q ⟨O, Ow, es, d, hO, F, e, q⟩ => ?_
    obtain ⟨y, e1, e⟩ := bind_some e
    obtain ⟨_, x, rfl, hc⟩ := A _ _ _ e
    refine ⟨O, Ow, es, _, hO, F, e1, fun H1 u s1 r1 => ?_⟩
    obtain ⟨a, dx, C, w, rfl, h1, h2, h3, h4⟩ := r1.exc
    exact ⟨a, dx, C, w, rfl, h1, h2, hc C h3, q H1 w s1 (.inl h4)⟩
  · refine se_no.eqf fun σ d hd => ?_
    obtain ⟨y, _, e2⟩ := bind_some hd
    exact absurd (A _ _ _ e2).1 ha
end
end EV

namespace EV
open PySem PySem.Spec PyProof.Rows L2
/-! ### d.get(k, x) -/
section
variable {X : Cx} {b : Bool} {o e f : Expr} {apos cpos dpos : Pos} {f1 f2 f3 : List Sl → Option D}
theorem m2_of (hb : attributeBase o "get" X.env (eval o X.env) = eval o X.env) (he : isStar e = false) (hf : isStar f = false) (hl : (apos.endLine == cpos.line) = true) : M2 X o "get" apos e f cpos := by
  have e2 : starEach [f] X.env = [(false, eval f X.env)] := starEach_cons (star_no hf) _
  have e1 : starEach [e, f] X.env = [(false, eval e X.env), (false, eval f X.env)] := (starEach_cons (star_no he) _).trans (by rw [e2])
  have et : backTo cpos (starEach [e, f] X.env) = [(false, eval e X.env), (false, eval f X.env)] := by rw [e1]; rfl
  exact ⟨hb, by rw [et]; rfl, hl, et⟩
theorem se_get (hb : attributeBase o "get" X.env (eval o X.env) = eval o X.env) (he : isStar e = false) (hf : isStar f = false) (hl : (apos.endLine == cpos.line) = true) (h1 : SE X true o f1) (h2 : SE X true e f2) (h3 : SE X b f f3) :
    SE X b (.Call (.Attribute o "get" apos) [e, f] [] cpos) fun σ => (f1 σ).bind fun d => (f2 σ).bind fun x => (f3 σ).bind fun y => getD2 d x y := by
  have m := m2_of hb he hf hl
  refine ⟨fun pins s σ H Q I ⟨O, Ow, es, d, hO, F, e0, q⟩ => ?_⟩
  obtain ⟨d1, g1, e0⟩ := bind_some e0
  obtain ⟨d2, g2, e0⟩ := bind_some e0
  obtain ⟨d3, g3, e0⟩ := bind_some e0
  cases d1 with
  | dict kvs =>
    cases d2 with
    | str z =>
      obtain ⟨ht, e0⟩ := cond_some e0
      have e0 := Option.some.inj e0
      refine wpAny_Call_method m.base m.few m.line PySem.F.plainAttrs_dict PySem.F.slot_dict_get PySem.F.type_dict_get (thn (h1.run pins s σ H _ I ⟨O, Ow, es, _, hO, F, g1, fun H1 v s1 r1 => (⟨s1, r1⟩ : Same H H1 ∧ RoB X.K X.w O H1 true v (.dict kvs))⟩) fun u s1 ⟨x, H1, I1, rx, m1, ro⟩ => ?_)
      obtain ⟨a, des, n, rfl, hk, k1, k2⟩ := ro.kd ht
      cases rx
      have mo := fun {s : Shared} {H : Hp} (J : Inv X pins σ H s) => PySem.W.mapOf_K (prog := X.prog) J.kIn hk.at_ hk.lit
      refine ⟨(mo I1).typeIs, fun b' q' => ?_, ?_⟩
      · cases q'
        exact ⟨_, I1.kIn _ _ hk.at_, rfl⟩
      · rw [m.trees]
        refine Calls.callWith_builtin rfl (Calls.evalArgs_plain (Calls.spliced_cons (thn (h2.run pins s1 σ H1 _ I1 ⟨O, Ow, es, _, hO.same m1, F.same m1, g2, fun H2 v s2 r2 => (⟨s2, r2⟩ : Same H1 H2 ∧ RoB X.K X.w O H2 true v (.str z))⟩) fun iv s2 ⟨y, H2, I2, ry, m2, r2⟩ =>
          Calls.spliced_cons (thn (h3.run pins s2 σ H2 _ I2 ⟨O, Ow, es, _, hO.same (m1.trans m2), F.same (m1.trans m2), g3, fun H3 v s3 r3 => (⟨s3, r3⟩ : Same H2 H3 ∧ RoB X.K X.w O H3 b v d3)⟩) fun fv s3 ⟨zv, H3, I3, rz, m3, r3⟩ => Calls.spliced_nil ?_))))
        obtain ⟨rfl, _⟩ := r2.str
        obtain ⟨t, rfl⟩ := ry
        have mm := (m1.trans m2).trans m3
        have key : ∃ r : Option Value, PySem.W.nsIn X.K a z = some r ∧ ∃ v, RelV v (r.getD fv) ∧ RoB X.K X.w O H3 b v d := by
          cases hd : dget kvs z with
          | none =>
            rw [hd] at e0
            exact ⟨none, k2 z hd, zv, rz, by rw [← e0]; exact r3⟩
          | some dv =>
            obtain ⟨u', v', q1, q2, q3⟩ := k1 z dv hd
            rw [hd] at e0
            exact ⟨some u', q1, v', q2, by rw [← e0]; exact .inl (q3.same (m2.trans m3))⟩
        obtain ⟨r, hr, v, rv, rov⟩ := key
        refine call_meetsIn PySem.F.slot_dict_get (mo I3).typeIs PySem.F.entry_dict_get (PySem.F.args_dict_get_3 _ _ _) (meets_dict_get_default (strKind X.prog X.w) a (PySem.strKind_is X.prog X.w z t) hk.low fv) ⟨_, mo I3, ?_⟩
        rw [PySem.W.find_K hk.at_ hr]
        exact ⟨v, H3, I3.tok _, rv, q H3 v mm rov⟩
    | _ => cases e0
  | _ => cases e0
theorem disp_len : ∀ {ks : List (Option Expr)} {vs : List Expr} {kvs : List (Str × Int)}, dispD ks vs = some kvs → ks.length = kvs.length ∧ vs.length = kvs.length ∧ ks.all (·.isSome) = true
  | ks, vs, kvs, h => by
    unfold dispD at h
    split at h
    · cases h; exact ⟨rfl, rfl, rfl⟩
    · rename_i k kj kp ks v vj vp vs
      obtain ⟨r, h1, h2⟩ := bind_some h
      cases c : r.any fun p => decide (p.1 = k) with
      | true => rw [c] at h2; cases h2
      | false =>
        rw [c] at h2
        cases h2
        obtain ⟨a1, a2, a3⟩ := disp_len h1
        exact ⟨by simp [a1], by simp [a2], by simp [a3]⟩
    · cases h
theorem disp_pps {pos : Pos} : ∀ {ks : List (Option Expr)} {vs : List Expr} {kvs : List (Str × Int)}, dispD ks vs = some kvs → PPs X pos ks vs (kvs.map fun p => (tC (.str p.1), tC (.int p.2)))
  | ks, vs, kvs, h => by
    unfold dispD at h
    split at h
    · cases h; exact pps_nil
    · rename_i k kj kp ks v vj vp vs
      obtain ⟨r, h1, h2⟩ := bind_some h
      cases c : r.any fun p => decide (p.1 = k) with
      | true => rw [c] at h2; cases h2
      | false =>
        rw [c] at h2
        cases h2
        exact pps_cons pe_str pe_int (disp_pps h1)
    · cases h
theorem disp_nd : ∀ {ks : List (Option Expr)} {vs : List Expr} {kvs : List (Str × Int)}, dispD ks vs = some kvs → (kvs.map (·.1)).Nodup
  | ks, vs, kvs, h => by
    unfold dispD at h
    split at h
    · cases h; exact .nil
    · rename_i k kj kp ks v vj vp vs
      obtain ⟨r, h1, h2⟩ := bind_some h
      cases c : r.any fun p => decide (p.1 = k) with
      | true => rw [c] at h2; cases h2
      | false =>
        rw [c] at h2
        cases h2
        refine List.nodup_cons.mpr ⟨fun hm => ?_, disp_nd h1⟩
        obtain ⟨p, hp, e⟩ := List.mem_map.mp hm
        have := List.any_eq_false.mp c p hp
        exact this (decide_eq_true e)
    · cases h
abbrev kI (kvs : List (Str × Int)) : List (L2.Key × V) := kvs.map fun p => (.inr p.1, .int p.2)
theorem pairs_tC : ∀ (kvs : List (Str × Int)) (σ : L2.St) (H : Hp) (Q : List (V × V) → Hp → Prop), Q ((kI kvs).map fun kv => (kV kv.1, kv.2)) H → tPairs (kvs.map fun p => (tC (.str p.1), tC (.int p.2))) σ H Q
  | [], _, _, _, h => h
  | p :: r, σ, H, Q, h => pairs_tC r σ H (fun ps H3 => Q ((.str p.1, .int p.2) :: ps) H3) h
theorem merge_new : ∀ (more acc : List (L2.Key × V)), (more.map (·.1)).Nodup → (∀ p ∈ more, ∀ q ∈ acc, q.1 ≠ p.1) → mergeK acc more = acc ++ more
  | [], acc, _, _ => by simp [mergeK]
  | p :: r, acc, nd, dj => by
    have hp : putK acc p.1 p.2 = acc ++ [p] := by
      unfold putK
      rw [if_neg]
      simp only [List.any_eq_true, decide_eq_true_eq, not_exists, not_and]
      exact fun q hq => dj p List.mem_cons_self q hq
    rw [List.map_cons, List.nodup_cons] at nd
    have := merge_new r (acc ++ [p]) nd.2 fun x hx q hq => by
      rcases List.mem_append.mp hq with hq | hq
      · exact dj x (List.mem_cons_of_mem _ hx) q hq
      · rw [List.mem_singleton.mp hq]
        exact fun e => nd.1 (e ▸ List.mem_map.mpr ⟨x, hx, rfl⟩)
    show (r.foldl (fun acc kv => putK acc kv.1 kv.2) (putK acc p.1 p.2)) = _
    rw [hp]
    rw [show (r.foldl (fun acc kv => putK acc kv.1 kv.2) (acc ++ [p])) = mergeK (acc ++ [p]) r from rfl, this, List.append_assoc]; rfl
theorem val_look (z : Str) : ∀ kvs : List (Str × Int), valV (kI kvs) (.inr z) = (lookI z kvs).map V.int
  | [] => rfl
  | (k, v) :: r => by
    by_cases h : k = z
    · rw [show kI ((k, v) :: r) = (.inr k, .int v) :: kI r from rfl, valV_pos (by rw [h])]
      unfold lookI
      rw [decide_eq_true h]; rfl
    · rw [show kI ((k, v) :: r) = (.inr k, .int v) :: kI r from rfl, valV_neg (fun e => h (Sum.inr.inj e)), val_look z r]
      show _ = Option.map V.int (cond (decide (k = z)) (some v) (lookI z r))
      rw [decide_eq_false h]; rfl
theorem se_dget {ks : List (Option Expr)} {vs : List Expr} {kvs : List (Str × Int)} (hu : X.A.units + 65 < cLine) (he : isStar e = false) (hf : isStar f = false) (hl : (apos.endLine == cpos.line) = true) (hd : dispD ks vs = some kvs) (h2 : SE X true e f2) (h3 : SE X b f f3) :
    SE X b (.Call (.Attribute (.Dict ks vs dpos) "get" apos) [e, f] [] cpos) fun σ => (f2 σ).bind fun x => (f3 σ).bind fun y => getI2 kvs x y := by
  obtain ⟨a1, a2, a3⟩ := disp_len hd
  by_cases hz : ks.length ≤ 15 ∧ ks ≠ []
  · refine (pe_dget2 (by omega) (pe_disp (pos := dpos) (disp_pps hd) a3 (by omega) hz.2 hz.1) h2 h3 (m2_of rfl he hf hl)).imp fun σ H Q ⟨O, Ow, es, d, hO, F, e0, q⟩ => ?_
    obtain ⟨d2, g2, e0⟩ := bind_some e0
    obtain ⟨d3, g3, e0⟩ := bind_some e0
    intro p hp
    refine pairs_tC _ _ _ _ ⟨upd_same, kI kvs, rfl, by rw [List.length_map]; omega, p, rfl, ?_⟩
    have nd : ((kI kvs).map (·.1)).Nodup := by
      rw [List.map_map]
      have := disp_nd hd
      have e : ((fun x : L2.Key × V => x.1) ∘ fun p : Str × Int => ((Sum.inr p.1 : L2.Key), V.int p.2)) = fun p : Str × Int => (Sum.inr p.1 : L2.Key) := rfl
      rw [e]
      exact List.pairwise_map.mpr ((List.pairwise_map.mp this).imp fun h z => h (Sum.inr.inj z))
    rw [merge_new (kI kvs) [] nd nofun, List.nil_append]
    have s1 : Same H (upd (upd H p (.dK [])) p (.dK (kI kvs))) := fun b u e => by rw [upd_ne (ne_of_none e hp), upd_ne (ne_of_none e hp)]; exact e
    generalize hH1 : upd (upd H p (.dK [])) p (.dK (kI kvs)) = H1 at s1
    have hp1 : H1 p = some (.dK (kI kvs)) := by rw [← hH1]; exact upd_same
    refine ⟨.inl ⟨_, .inl hp1⟩, O, Ow, es, d2, hO.same s1, F.same s1, g2, fun H2 v s2 r2 => ⟨O, Ow, es, d3, (hO.same s1).same s2, (F.same s1).same s2, g3, fun H3 v' s3 r3 => ?_⟩⟩
    cases d2 with
    | str z =>
      obtain ⟨rfl, _⟩ := r2.str
      obtain ⟨_, e0⟩ := cond_some (show cond _ _ none = some d from e0)
      have e0 := Option.some.inj e0
      refine ⟨valV (kI kvs) (.inr z), .inl ⟨_, .inr z, .inl (s3 _ _ (s2 _ _ hp1)), rfl, rfl⟩, ?_⟩
      refine q _ _ ((s1.trans s2).trans s3) ?_
      rw [val_look]
      cases hv : lookI z kvs with
      | none => rw [hv] at e0; rw [← e0]; exact r3
      | some i => rw [hv] at e0; rw [← e0]; exact .inl (.int i)
    | _ => cases e0
  · refine ⟨fun pins s σ H Q I ⟨O, Ow, es, d, hO, F, e0, q⟩ => ?_⟩
    exfalso
    obtain ⟨d2, g2, e0⟩ := bind_some e0
    obtain ⟨d3, g3, e0⟩ := bind_some e0
    cases d2 with
    | str z =>
      obtain ⟨c, _⟩ := cond_some (show cond _ _ none = some d from e0)
      rw [Bool.and_eq_true] at c
      refine hz ⟨by have := of_decide_eq_true c.1; omega, fun e => ?_⟩
      subst e
      cases kvs with
      | nil => simp at c
      | cons _ _ => simp at a1
    | _ => cases e0
end
end EV

namespace EV
open PySem PySem.Spec PyProof.Rows L2
/-! ### sets of nested keys: the small questions -/
mutual
/-- does hash(k) depend on values alone -/
def byV : NestedKey → Bool
  | .none => true
  | .num _ => true
  | .text _ => false
  | .tup ks => byVs ks
def byVs : List NestedKey → Bool
  | [] => true
  | k :: ks => byV k && byVs ks
end
abbrev IsN (h : Heap) (k : NestedKey) (a : Addr) : Prop := NestedIs h k (.ref a) ∧ k.depth ≤ 8
section
variable {P : Program} {w : World} {A : Around}
theorem hashBy_leaf {v : Value} {k : NestedKey} {h : Heap} (x : NestedIs h k v) (hn : k.depth = 0) (n : Nat) : hashByValue n v = pure (byV k) := by
  cases x with
  | tup => simp [NestedKey.depth] at hn
  | _ => cases n <;> rfl
theorem ofA_leaf {v : Value} {k : NestedKey} {h : Heap} (x : NestedIs h k v) (hn : k.depth = 0) (n : Nat) : ofAClassStatement n v = pure false := by
  cases x with
  | tup => simp [NestedKey.depth] at hn
  | _ => cases n <;> rfl
theorem hashBy_key : ∀ (n : Nat) (k : NestedKey) (v : Value) (s : Shared), NestedIs s.heap k v → k.depth ≤ n → ∀ (E : Value → Shared → Prop) (Q : Bool → Shared → Prop), Q (byV k) s → wpAny (model P w) A (hashByValue n v) Q E s
  | 0, k, v, s, x, hn, E, Q, q => by
    rw [hashBy_leaf x (by omega)]
    exact wpAny_pure q
  | n + 1, k, v, s, x, hn, E, Q, q => by
    cases x with
    | @tup b o vs m ks ho hc hd hk =>
      simp only [NestedKey.depth] at hn
      unfold hashByValue
      refine wpAny_bind (wpAny_specialOf ⟨o, ho, hc⟩ F.slot_tuple_hash.lookup ?_)
      refine wpAny_bind (wpAny_seqItems ho hd ?_)
      refine wpAny_bind ?_
      show wpAny _ _ (forIn vs _ _) _ _ s
      rw [← Array.forIn_toList]
      refine wpAny_forIn_list _ (fun rest r s' => r.1 = none ∧ s' = s ∧ ∃ ks', NestedAll s.heap ks' rest ∧ NestedKey.depthAll ks' ≤ n ∧ byVs ks = byVs ks') _ ?_ ?_ _ _ ⟨rfl, rfl, ks, hk, by omega, rfl⟩
      · rintro v rest r s' ⟨hr, rfl, ks', hall, hdp, hb⟩
        cases hall with
        | @cons k' _ kr _ h1 h2 =>
          simp only [NestedKey.depthAll] at hdp
          refine wpAny_bind (hashBy_key n k' v s' h1 (by omega) _ _ ?_)
          simp only [byVs] at hb
          cases hk' : byV k' with
          | true =>
            rw [hk', Bool.true_and] at hb
            simp only [Bool.not_true, Bool.false_eq_true, if_false]
            exact wpAny_pure ⟨rfl, rfl, kr, h2, by omega, hb⟩
          | false =>
            rw [hk', Bool.false_and] at hb
            simp only [Bool.not_false, if_true]
            refine wpAny_pure ?_
            rw [show byV (NestedKey.tup ks) = false from hb] at q
            exact wpAny_pure q
      · rintro ⟨r1, r2⟩ s' ⟨hr, rfl, ks', hall, hdp, hb⟩
        simp only at hr
        subst hr
        cases hall
        rw [show byV (NestedKey.tup ks) = true from hb] at q
        exact wpAny_pure q
    | _ =>
      rw [hashBy_leaf (h := s.heap) (by constructor <;> assumption) rfl]
      exact wpAny_pure q
theorem ofA_key : ∀ (n : Nat) (k : NestedKey) (v : Value) (s : Shared), NestedIs s.heap k v → k.depth ≤ n → ∀ (E : Value → Shared → Prop) (Q : Bool → Shared → Prop), Q false s → wpAny (model P w) A (ofAClassStatement n v) Q E s
  | 0, k, v, s, x, hn, E, Q, q => by
    rw [ofA_leaf x (by omega)]
    exact wpAny_pure q
  | n + 1, k, v, s, x, hn, E, Q, q => by
    cases x with
    | @tup b o vs m ks ho hc hd hk =>
      simp only [NestedKey.depth] at hn
      unfold ofAClassStatement
      refine wpAny_bind (wpAny_typeOf ⟨o, ho, hc⟩ ?_)
      simp only [show (("tuple" : String) == "tuple") = true by decide, if_true]
      refine wpAny_bind (wpAny_pure ?_)
      simp only [Bool.not_true, Bool.false_eq_true, if_false]
      refine wpAny_bind (wpAny_seqItems ho hd ?_)
      refine wpAny_bind ?_
      show wpAny _ _ (forIn vs _ _) _ _ s
      rw [← Array.forIn_toList]
      refine wpAny_forIn_list _ (fun rest r s' => r.1 = none ∧ s' = s ∧ ∃ ks', NestedAll s.heap ks' rest ∧ NestedKey.depthAll ks' ≤ n) _ ?_ ?_ _ _ ⟨rfl, rfl, ks, hk, by omega⟩
      · rintro v rest r s' ⟨hr, rfl, ks', hall, hdp⟩
        cases hall with
        | @cons k' _ kr _ h1 h2 =>
          simp only [NestedKey.depthAll] at hdp
          refine wpAny_bind (ofA_key n k' v s' h1 (by omega) _ _ ?_)
          simp only [Bool.false_eq_true, if_false]
          exact wpAny_pure ⟨rfl, rfl, kr, h2, by omega⟩
      · rintro ⟨r1, r2⟩ s' ⟨hr, rfl, _⟩
        simp only at hr
        subst hr
        exact wpAny_pure q
    | _ =>
      rw [ofA_leaf (h := s.heap) (by constructor <;> assumption) rfl]
      exact wpAny_pure q
/-- what a search among such keys would show: nothing -/
theorem seen_key {s : Shared} {E : Value → Shared → Prop} {k : NestedKey} {b : Addr} {Q : Bool → Shared → Prop} (hk : IsN s.heap k b) {ys : List Value} (hy : ∀ y ∈ ys, ∃ k' c, y = Value.ref c ∧ IsN s.heap k' c) (q : Q false s) :
    wpAny (model P w) A (searchCouldBeSeen (.ref b) ys) Q E s := by
  unfold searchCouldBeSeen
  refine wpAny_bind ?_
  refine wpAny_forIn_list _ (fun rest r s' => (r.1 = none ∧ s' = s) ∧ rest ⊆ ys) _ ?_ ?_ _ _ ⟨⟨rfl, rfl⟩, List.Subset.refl _⟩
  · rintro v rest r s' ⟨⟨hr, rfl⟩, hsub⟩
    obtain ⟨k', c, rfl, hc⟩ := hy v (hsub List.mem_cons_self)
    have hsub' : rest ⊆ ys := fun z hz => hsub (List.mem_cons_of_mem _ hz)
    by_cases hv : (b == c || (carriedByValue (.ref b) && carriedByValue (.ref c))) = true
    · exact wp_if_pos hv (wpAny_pure ⟨⟨rfl, rfl⟩, hsub'⟩)
    · refine wp_if_neg hv (wpAny_bind (quiet_key k _ 8 s' hk.1 hk.2 A E _ ?_))
      simp only [Bool.not_true, Bool.false_eq_true, if_false]
      refine wpAny_bind (quiet_key k' _ 8 s' hc.1 hc.2 A E _ ?_)
      simp only [Bool.not_true, Bool.false_eq_true, if_false]
      refine wpAny_bind (ofA_key 8 k _ s' hk.1 hk.2 _ _ ?_)
      simp only [Bool.false_eq_true, if_false]
      refine wpAny_bind (ofA_key 8 k' _ s' hc.1 hc.2 _ _ ?_)
      simp only [Bool.false_eq_true, if_false]
      exact wpAny_pure ⟨⟨rfl, rfl⟩, hsub'⟩
  · rintro ⟨r1, r2⟩ s' ⟨⟨hr, rfl⟩, _⟩
    simp only at hr
    subst hr
    exact wpAny_pure q
end
end EV

namespace EV
open PySem PySem.Spec PyProof.Rows L2
/-! ### a set of nested keys -/
abbrev NRow : Type := Addr × NestedKey
def rowsN (w : World) (L : List NRow) : List (Int × Value) := L.map fun r => (r.2.hash w, .ref r.1)
structure SetN (w : World) (h : Heap) (a : Addr) (L : List NRow) (es : Array (Int × Value)) (ep : Nat) (t : SetTable) : Prop where
  ob : ∃ o, h.get? a = some o ∧ o.ExactSet ∧ o.data = .set es ep t
  rows : es.toList = rowsN w L
  tab : TabOk t (L.map fun r => r.2.hash w)
  nd : (L.map Prod.snd).Nodup
  key : ∀ r ∈ L, IsN h r.2 r.1
  led : w.params.followText "set-order" = true ∨ t.led = true
  room : L.length * 5 < t.mask * 3
  few : L.length < 64
/-- the c-th place of the way of a hash -/
abbrev stop (t : SetTable) (hs : Int) (c : Nat) : SetTable.Probe := nth t.mask (runAt t.mask (SetTable.bits hs % (t.mask + 1)) (SetTable.bits hs)) c
theorem stop_dummy (t : SetTable) (hs : Int) : ∀ c, (stop t hs c).dummy = none
  | 0 => rfl
  | c + 1 => by
    show (nth t.mask _ (c + 1)).dummy = none
    rw [nth_succ]
    unfold adv
    have ih := stop_dummy t hs c
    split <;> exact ih
section
variable {P : Program} {w : World} {A : Around} {E : Value → Shared → Prop} {s : Shared} {a : Addr} {L : List NRow} {es : Array (Int × Value)} {ep : Nat} {t : SetTable}
theorem SetN.len (R : SetN w s.heap a L es ep t) : es.size = L.length := by
  rw [← Array.length_toList, R.rows, rowsN, List.length_map]
theorem SetN.places (R : SetN w s.heap a L es ep t) : t.place.toList.length = L.length := by
  rw [Array.length_toList, R.tab.sz, List.length_map]
theorem SetN.fits (R : SetN w s.heap a L es ep t) : t.fits es.size = true := by
  have h1 := R.len
  have h2 := R.places
  have h3 := R.room
  rw [Array.length_toList] at h2
  simp only [SetTable.fits, SetTable.fill, R.tab.dm, Bool.and_eq_true, beq_iff_eq, decide_eq_true_eq]
  exact ⟨by omega, by show t.place.size + 0 ≤ t.mask; omega⟩
theorem SetN.at {i : Nat} {r : NRow} (R : SetN w s.heap a L es ep t) (h : L[i]? = some r) : es[i]? = some (r.2.hash w, Value.ref r.1) := by
  have e : es.toList[i]? = (L[i]?).map (fun r => (r.2.hash w, Value.ref r.1)) := by rw [R.rows, rowsN, List.getElem?_map]
  rw [Array.getElem?_toList, h] at e
  exact e
theorem SetN.rowAt {i j : Nat} (R : SetN w s.heap a L es ep t) (h : t.place.toList[i]? = some j) : ∃ r, L[i]? = some r ∧ r ∈ L := by
  have h1 := (List.getElem?_eq_some_iff.mp h).1
  rw [R.places] at h1
  exact ⟨L[i], List.getElem?_eq_getElem h1, List.getElem_mem h1⟩
/-- where the rows of the key still stand ahead -/
def Ahead (w : World) (L : List NRow) (t : SetTable) (k : NestedKey) (c K : Nat) : Prop := ∀ (i : Nat) (r : NRow), L[i]? = some r → r.2 = k → ∃ c', c ≤ c' ∧ c' < K ∧ t.place.toList[i]? = some (way t.mask (k.hash w) c')
theorem find_from (R : SetN w s.heap a L es ep t) {x : Addr} {k : NestedKey} (hx : IsN s.heap k x) (hu : A.units + 8 < cLine) {K : Nat} (hKf : K < 10 * SetTable.turns t.mask)
    (hK : way t.mask (k.hash w) K ∉ t.place.toList) (hKb : ∀ c, c < K → way t.mask (k.hash w) c ∈ t.place.toList) {Q : SetFound → Shared → Prop}
    (yes : k ∈ L.map Prod.snd → Q (.there none) s) (no : k ∉ L.map Prod.snd → Q (.free (way t.mask (k.hash w) K) false) s) :
    ∀ (f c : Nat) (st : Option SetTable.Probe), st.getD (t.probeStart (k.hash w)) = stop t (k.hash w) c → c ≤ K → K - c < f → Ahead w L t k c K → wpAny (model P w) A (setSearchFrom a (.ref x) (k.hash w) true f st) Q E s
  | 0, _, _, _, _, hf, _ => absurd hf (Nat.not_lt_zero _)
  | f + 1, c, st, hst, hc, hf, hah => by
    obtain ⟨o, ho, hex, hd⟩ := R.ob
    have gw : ¬ t.gaveWay = true := by
      simp [SetTable.gaveWay, mask_odd R.tab.mok]
    have add : ∀ q, nth t.mask (stop t (k.hash w) c) q = stop t (k.hash w) (c + q) := fun q => (nth_add t.mask c _ q).symm
    have addj : ∀ q, (nth t.mask (stop t (k.hash w) c) q).j = way t.mask (k.hash w) (c + q) := fun q => by rw [add]
    have eK : c + (K - c) = K := by omega
    have sp := go_spec t R.tab.ris R.tab.dm (fun i => (es[i]?.map (·.1)).getD 0) (k.hash w) (10 * SetTable.turns t.mask) (K - c) _ (stop_dummy t (k.hash w) c) (by omega)
      (fun q hq => by rw [addj]; exact hKb _ (by omega)) (by rw [addj, eK]; exact hK)
    have hsh : ∀ {i : Nat} {r : NRow}, L[i]? = some r → (fun i => (es[i]?.map (·.1)).getD 0) i = r.2.hash w := fun hr => by simp [R.at hr]
    rw [setSearchFrom_succ]
    refine wpAny_bind (wpAny_setState_of ho hd R.fits (wp_if_neg gw ?_))
    try refine wpAny_bind (wpAny_pure ?_)
    rcases sp with ⟨q, i, hq, hi, _, hno, hpr⟩ | ⟨hno, hpr⟩
    · rw [show t.probe (fun i => (es[i]?.map (·.1)).getD 0) (k.hash w) (st.getD (t.probeStart (k.hash w))) = some (.candidate (way t.mask (k.hash w) (c + q)) i (stop t (k.hash w) (c + (q + 1)))) by rw [hst, ← addj, ← add]; exact hpr]
      rw [addj] at hi
      obtain ⟨r, hr, hm⟩ := R.rowAt hi
      have live : t.slot (way t.mask (k.hash w) (c + q)) = .live i := slot_live R.tab.ris hi
      have go : wpAny (model P w) A (searchRest a (.ref x) (k.hash w) true f es t (way t.mask (k.hash w) (c + q)) i (stop t (k.hash w) (c + (q + 1)))) Q E s := by
        unfold searchRest
        rw [R.at hr]
        refine wpAny_bind (wpAny_holding ((nestedKind P w).eqBool hu (R.key r hm) hx ?_))
        refine wpAny_bind (wpAny_setState_of ho hd R.fits ?_)
        by_cases hkk : r.2 = k
        · rw [decide_eq_true hkk]
          exact wp_if_pos rfl (wpAny_pure (yes (List.mem_map.mpr ⟨r, hm, hkk⟩)))
        · rw [decide_eq_false hkk]
          refine wp_if_neg (by simp) ?_
          try refine wpAny_bind (wpAny_pure ?_)
          rw [sameMem]
          simp only [if_true, live, R.at hr]
          refine wpAny_bind (wpAny_isSame_ref_self (wpAny_bind (wpAny_pure ?_)))
          simp only [if_true]
          refine wp_if_neg (by simp) ?_
          refine find_from R hx hu hKf hK hKb yes no f (c + (q + 1)) _ rfl (by omega) (by omega) fun i0 r0 h0 k0 => ?_
          obtain ⟨c', a1, a2, a3⟩ := hah i0 r0 h0 k0
          have n1 : ¬ c' < c + q := fun z => hno (c' - c) i0 (by omega) (by rw [addj, show c + (c' - c) = c' by omega]; exact a3) (by rw [← k0]; exact hsh h0)
          have n2 : c' ≠ c + q := fun z => by
            subst z
            have l2 := slot_live R.tab.ris a3
            rw [live] at l2
            cases l2
            rw [hr] at h0
            cases h0
            exact hkk k0
          exact ⟨c', by omega, a2, a3⟩
      by_cases hl : t.led = true
      · refine wp_if_neg (by simp [hl]) ?_
        try refine wpAny_bind (wpAny_pure ?_)
        exact go
      · refine wp_if_pos (by simp [hl]) (wpAny_bind (seen_key hx (fun y hy => ?_) (wp_if_neg (by decide) ?_)))
        · obtain ⟨e, he, rfl⟩ := List.mem_map.mp hy
          have he : e ∈ es := by simp at he; exact he.1
          have he : e ∈ rowsN w L := by rw [← R.rows]; simpa using he
          obtain ⟨r, hr, rfl⟩ := List.mem_map.mp he
          exact ⟨r.2, r.1, rfl, R.key r hr⟩
        · try refine wpAny_bind (wpAny_pure ?_)
          exact go
    · rw [show t.probe (fun i => (es[i]?.map (·.1)).getD 0) (k.hash w) (st.getD (t.probeStart (k.hash w))) = some (.empty (way t.mask (k.hash w) K) none) by
        rw [hst, show way t.mask (k.hash w) K = (nth t.mask (stop t (k.hash w) c) (K - c)).j by rw [addj, eK]]
        exact hpr]
      refine wpAny_pure (no fun hm => ?_)
      obtain ⟨r, hr, hk⟩ := List.mem_map.mp hm
      obtain ⟨i, hi, rfl⟩ := List.getElem_of_mem hr
      have hi' := List.getElem?_eq_getElem hi
      obtain ⟨c', a1, a2, a3⟩ := hah i _ hi' hk
      exact hno (c' - c) i (by omega) (by rw [addj, show c + (c' - c) = c' by omega]; exact a3) (by rw [← hk]; exact hsh hi')
theorem find_at (R : SetN w s.heap a L es ep t) {x : Addr} {k : NestedKey} (hx : IsN s.heap k x) (hu : A.units + 8 < cLine) {Q : SetFound → Shared → Prop} (yes : k ∈ L.map Prod.snd → Q (.there none) s)
    (no : ∀ K, k ∉ L.map Prod.snd → way t.mask (k.hash w) K ∉ t.place.toList → (∀ c, c < K → way t.mask (k.hash w) c ∈ t.place.toList) → Q (.free (way t.mask (k.hash w) K) false) s) :
    wpAny (model P w) A (setSearch a (.ref x) (k.hash w) true) Q E s := by
  have hroom := R.room
  obtain ⟨K, h1, h2, h3⟩ := R.tab.first (by rw [List.length_map]; omega) (k.hash w)
  have hb : 10 * SetTable.turns t.mask ≤ 2000 := by
    unfold SetTable.turns
    rcases R.tab.mok with e | e | e <;> omega
  unfold setSearch
  refine find_from R hx hu h1 h2 h3 yes (fun z => no K z h2 h3) 100000 0 none rfl (Nat.zero_le _) (by omega) fun i r hr hk => ?_
  have hi : i < t.place.toList.length := by rw [R.places]; exact (List.getElem?_eq_some_iff.mp hr).1
  obtain ⟨c, hc, e⟩ := R.tab.before h2 (i := i) (by rw [List.getElem?_map, hr, ← hk]; rfl) (List.getElem?_eq_getElem hi)
  exact ⟨c, Nat.zero_le _, hc, by rw [List.getElem?_eq_getElem hi, e]⟩
end
end EV

namespace EV
open PySem PySem.Spec PyProof.Rows L2
theorem IsN.same {h h' : Heap} {k : NestedKey} {a b : Addr} {o : Obj} {es : Array (Int × Value)} {ep : Nat} {t : SetTable} (x : IsN h k b) (ho : h.get? a = some o) (hd : o.data = .set es ep t) (sb : Heap.SameBut a h h') : IsN h' k b :=
  ⟨NestedIs.at (fun c oc vs n hc hdc => (sb.2 c fun z => by
    subst z
    rw [ho] at hc
    cases hc
    rw [hd] at hdc
    cases hdc).trans hc) k _ x.1, x.2⟩
theorem IsN.kept {h h' : Heap} {k : NestedKey} {b : Addr} (x : IsN h k b) (hk : ∀ c o, h.get? c = some o → h'.get? c = some o) : IsN h' k b := ⟨NestedIs.at (fun c oc _ _ hc _ => hk c oc hc) k _ x.1, x.2⟩
theorem IsN.inj {h : Heap} {k k' : NestedKey} {b : Addr} (x : IsN h k b) (y : IsN h k' b) : k = k' := NestedIs.inj _ _ _ x.1 y.1
theorem fm_range {α : Type} (L : List α) : ∀ n, n ≤ L.length → (List.range n).filterMap (fun i => L[i]?) = L.take n
  | 0, _ => rfl
  | n + 1, h => by
    rw [List.range_succ, List.filterMap_append, fm_range L n (by omega), List.take_succ, List.getElem?_eq_getElem (show n < L.length by omega), List.filterMap_cons_some (List.getElem?_eq_getElem (show n < L.length by omega))]
    rfl
theorem fm_rows (w : World) (L : List NRow) (es : Array (Int × Value)) (hr : es.toList = rowsN w L) (l : List Nat) (hl : ∀ i ∈ l, i < L.length) : l.filterMap (fun i => es[i]?) = rowsN w (l.filterMap fun i => L[i]?) ∧ ((l.filterMap fun i => L[i]?).map fun r => r.2.hash w) = l.map fun i => (es.map (·.1)).getD i 0 := by
  have at1 : ∀ i, es[i]? = (L[i]?).map (fun r : NRow => (r.2.hash w, Value.ref r.1)) := fun i => by rw [← Array.getElem?_toList, hr, rowsN, List.getElem?_map]
  induction l with
  | nil => exact ⟨rfl, rfl⟩
  | cons i l ih =>
    obtain ⟨i1, i2⟩ := ih fun j hj => hl j (List.mem_cons_of_mem _ hj)
    have hi := List.getElem?_eq_getElem (hl i List.mem_cons_self)
    have e1 := at1 i
    rw [hi] at e1
    have e1 : es[i]? = some ((L[i]'(hl i List.mem_cons_self)).2.hash w, Value.ref (L[i]'(hl i List.mem_cons_self)).1) := e1
    refine ⟨?_, ?_⟩
    · rw [List.filterMap_cons_some e1, List.filterMap_cons_some hi, i1]; rfl
    · rw [List.filterMap_cons_some hi, List.map_cons, List.map_cons, i2]
      congr 1
      rw [Array.getD_eq_getD_getElem?, Array.getElem?_map, e1]; rfl
section
variable {P : Program} {w : World} {A : Around} {E : Value → Shared → Prop} {s : Shared} {a : Addr} {L : List NRow} {es : Array (Int × Value)} {ep : Nat} {t : SetTable}
/-- what is written, ahead of the table's check -/
structure SetPre (w : World) (h : Heap) (a : Addr) (L : List NRow) (es : Array (Int × Value)) (ep : Nat) (t : SetTable) : Prop where
  ob : ∃ o, h.get? a = some o ∧ o.ExactSet ∧ o.data = .set es ep t
  rows : es.toList = rowsN w L
  tab : TabOk t (L.map fun r => r.2.hash w)
  nd : (L.map Prod.snd).Nodup
  key : ∀ r ∈ L, IsN h r.2 r.1
  led : w.params.followText "set-order" = true ∨ t.led = true
  few : L.length < 64
theorem relayN (R : SetPre w s.heap a L es ep t) (hfl : L.length ≤ t.mask) {wanted M : Nat} (hw : SetTable.sizeAbove wanted - 1 = M) (hM : MaskOk M) (hw2 : SetTable.sizeAbove wanted ≤ 128) (hn : L.length * 5 < M * 3) {Q : Unit → Shared → Prop}
    (q : ∀ h' L' es' ep' t', Heap.SameBut a s.heap h' → SetN w h' a L' es' ep' t' → L'.Perm L → Q () { s with heap := h' }) : wpAny (model P w) A (setRelay a wanted) Q E s := by
  obtain ⟨o, ho, hex, hd⟩ := R.ob
  have hl : es.size = L.length := by rw [← Array.length_toList, R.rows, rowsN, List.length_map]
  have hp : t.place.size = L.length := by rw [R.tab.sz, List.length_map]
  have fits : t.fits es.size = true := by
    simp only [SetTable.fits, SetTable.fill, R.tab.dm, Bool.and_eq_true, beq_iff_eq, decide_eq_true_eq]
    exact ⟨by omega, by show t.place.size + 0 ≤ t.mask; omega⟩
  obtain ⟨t', ord, e, hpm, T, em, el, _, _⟩ := relaid_ok t (hs := es.map (·.1)) (wanted := wanted) hw hM (by rw [Array.size_map, hl]; omega)
  rw [Array.size_map, hl] at hpm
  obtain ⟨r1, r2⟩ := fm_rows w L es R.rows ord.toList fun i hi => List.mem_range.mp (hpm.mem_iff.mp hi)
  have pL : (ord.toList.filterMap fun i => L[i]?).Perm L := by
    have := hpm.filterMap fun i => L[i]?
    rwa [fm_range L _ (Nat.le_refl _), List.take_length] at this
  rw [← r2] at T
  have r1' : (ord.filterMap (es[·]?)).toList = rowsN w (ord.toList.filterMap fun i => L[i]?) := by
    rw [← r1]
    simp
  have sz : (ord.filterMap (es[·]?)).size = es.size := by
    rw [← Array.length_toList, r1', rowsN, List.length_map, pL.length_eq, hl]
  rw [setRelay_eq]
  refine wpAny_bind (wpAny_setState_of ho hd fits (wp_if_neg (by rw [sizeLine_eq]; omega) ?_))
  try refine wpAny_bind (wpAny_pure ?_)
  rw [e]
  refine wpAny_bind (wp_if_neg (by rw [sz]; simp) ?_)
  try refine wpAny_bind (wpAny_pure ?_)
  refine wpAny_pure ?_
  have hfew := R.few
  refine wpAny_storeSet_of ho hd ?_ (by rw [sz, hl, sizeLine_eq]; omega)
  have sb : Heap.SameBut a s.heap (s.heap.update a (Obj.putSet (ord.filterMap (es[·]?)) t')) := Heap.SameBut.update ..
  exact q _ _ _ (ep + 1) t' sb ⟨⟨_, store_at ho hd, ⟨hex.1, hex.2.1, hex.2.2⟩, rfl⟩, r1', T, (pL.map _).nodup_iff.mpr R.nd, fun r hr => (R.key r (pL.mem_iff.mp hr)).same ho hd sb, by rw [el]; exact R.led, by rw [pL.length_eq, em]; exact hn, by rw [pL.length_eq]; exact hfew⟩ pL
/-- a row put in -/
theorem addN (R : SetN w s.heap a L es ep t) {x : Addr} {k : NestedKey} (hx : IsN s.heap k x) (hu : A.units + 8 < cLine) (hfew : L.length + 1 < 64) {Q : Bool → Shared → Prop}
    (q : ∀ b h' L' es' ep' t', Heap.SameBut a s.heap h' → SetN w h' a L' es' ep' t' → (k ∈ L.map Prod.snd ∧ L' = L ∨ k ∉ L.map Prod.snd ∧ L'.Perm ((x, k) :: L)) → Q b { s with heap := h' }) :
    wpAny (model P w) A (setAddHashed a (.ref x) (k.hash w)) Q E s := by
  obtain ⟨o, ho, hex, hd⟩ := R.ob
  have hl := R.len
  have hroom := R.room
  unfold setAddHashed
  refine wpAny_holding ?_
  rw [show (100000 : Nat) = 99999 + 1 from rfl, setAddHashedIn_succ]
  refine wpAny_bind (wpAny_setState_of ho hd R.fits (wp_if_neg (by simp [byScan, Value.scannable]) ?_))
  try refine wpAny_bind (wpAny_pure ?_)
  refine wpAny_bind (find_at R hx hu (fun hm => ?_) fun K hm hK hb => ?_)
  · exact wpAny_pure (q false s.heap L es ep t (Heap.SameBut.refl a s.heap) R (.inl ⟨hm, rfl⟩))
  refine wpAny_bind (wpAny_setState_of ho hd R.fits ?_)
  obtain ⟨q1, q2, q3, q4, q5, _, _, _, q9⟩ := R.tab.put hK hb
  dsimp only
  generalize hpt : t.put (way t.mask (k.hash w) K) = pt at q1 q3 q4 q5 q9 ⊢
  obtain ⟨t0, p⟩ := pt
  rw [List.length_map] at q9 q2
  dsimp only at q1 q3 q4 q5 q9 ⊢
  rw [← q1] at q2 q3
  -- the table behind the look at the hash
  have tail : ∀ (t1 : SetTable), t1.mask = t0.mask → t1.led = t0.led → t1.place = t0.place → t1.dummies = t0.dummies → t1.fill = t0.fill →
      wpAny (model P w) A (do
        storeSet a (SetTable.insertAt es p (k.hash w, .ref x)) t1
        if !false && t1.tooFull then setRelay a (SetTable.grown (es.size + 1))
        return true) Q E s := fun t1 m1 m2 m3 m4 m5 => by
    have T1 : TabOk t1 ((L.map fun r => r.2.hash w).take p ++ k.hash w :: (L.map fun r => r.2.hash w).drop p) := by
      obtain ⟨c1, c2, c3, c4, c5, c6⟩ := q3
      exact ⟨by rw [m3]; exact c1, by rw [m4]; exact c2, by rw [m3]; exact c3, by rw [m1]; exact c4, by rw [m3, m1]; exact c5, by rw [m3, m1]; exact c6⟩
    have pm : (L.take p ++ (x, k) :: L.drop p).Perm ((x, k) :: L) := by
      have := List.perm_middle (a := ((x, k) : NRow)) (l₁ := L.take p) (l₂ := L.drop p)
      rwa [List.take_append_drop] at this
    have eh : (L.map fun r => r.2.hash w).take p ++ k.hash w :: (L.map fun r => r.2.hash w).drop p = (L.take p ++ (x, k) :: L.drop p).map fun r => r.2.hash w := by simp
    rw [eh] at T1
    have er : (SetTable.insertAt es p (k.hash w, .ref x)).toList = rowsN w (L.take p ++ (x, k) :: L.drop p) := by
      rw [SetTable.toList_insertAt, R.rows]
      simp [rowsN]
    generalize L.take p ++ (x, k) :: L.drop p = L1 at pm T1 er
    generalize SetTable.insertAt es p (k.hash w, .ref x) = es1 at er ⊢
    have hL1 : L1.length = L.length + 1 := pm.length_eq
    have hes : es1.size = L.length + 1 := by rw [← Array.length_toList, er, rowsN, List.length_map, hL1]
    refine wpAny_bind (wpAny_storeSet_of ho hd ?_ (by rw [hes, sizeLine_eq]; omega))
    have sb : Heap.SameBut a s.heap (s.heap.update a (Obj.putSet es1 t1)) := Heap.SameBut.update ..
    have ho1 := store_at (es' := es1) (t' := t1) ho hd
    generalize s.heap.update a (Obj.putSet es1 t1) = h1 at sb ho1 ⊢
    have R1 : SetPre w h1 a L1 es1 (ep + 1) t1 := by
      refine ⟨⟨_, ho1, ⟨hex.1, hex.2.1, hex.2.2⟩, rfl⟩, er, T1, (pm.map _).nodup_iff.mpr (List.nodup_cons.mpr ⟨hm, R.nd⟩), fun r hr => ?_, by rw [m2, q5]; exact R.led, by omega⟩
      rcases List.mem_cons.mp (pm.mem_iff.mp hr) with e | hr
      · rw [e]; exact hx.same ho hd sb
      · exact (R.key r hr).same ho hd sb
    have full : t1.tooFull = decide ((L.length + 1) * 5 ≥ t.mask * 3) := by
      unfold SetTable.tooFull
      rw [m5, q9, m1, q4]
    have mo := R.tab.mok
    by_cases hf : (L.length + 1) * 5 ≥ t.mask * 3
    · have hf1 : t1.tooFull = true := by rw [full]; exact decide_eq_true hf
      have two : L.length + 1 = 5 ∨ L.length + 1 = 19 := by rcases mo with e | e | e <;> rw [e] at hf hroom <;> omega
      have done : ∀ M, SetTable.sizeAbove (SetTable.grown (L.length + 1)) - 1 = M → MaskOk M → SetTable.sizeAbove (SetTable.grown (L.length + 1)) ≤ 128 → (L.length + 1) * 5 < M * 3 →
          wpAny (model P w) A (setRelay a (SetTable.grown (es.size + 1))) (fun _ s' => wpAny (model P w) A (pure true) Q E s') E { s with heap := h1 } := fun M g1 g2 g3 g4 => by
        rw [hl]
        refine relayN (s := { s with heap := h1 }) R1 (by rw [hL1, m1, q4]; rcases mo with e | e | e <;> rw [e] at hroom ⊢ <;> omega) g1 g2 g3 (by rw [hL1]; exact g4) fun h2 L2 es2 ep2 t2 sb2 R2 pm2 => ?_
        exact wpAny_pure (q true h2 L2 es2 ep2 t2 (sb.trans sb2) R2 (.inr ⟨hm, pm2.trans pm⟩))
      have go : wpAny (model P w) A (setRelay a (SetTable.grown (es.size + 1))) (fun _ s' => wpAny (model P w) A (pure true) Q E s') E { s with heap := h1 } := by
        rcases two with e | e
        · exact done 31 (by rw [e, size_20]) (.inr (.inl rfl)) (by rw [e, size_20]; decide) (by omega)
        · exact done 127 (by rw [e, size_76]) (.inr (.inr rfl)) (by rw [e, size_76]; decide) (by omega)
      first
        | (refine wpAny_bind ?_; exact wp_if_pos (by simp [hf1]) go)
        | exact wp_if_pos (by simp [hf1]) (wpAny_bind go)
    · have hf1 : t1.tooFull = false := by rw [full]; exact decide_eq_false hf
      have fin : Q true { s with heap := h1 } := q true h1 L1 es1 (ep + 1) t1 sb ⟨R1.ob, R1.rows, R1.tab, R1.nd, R1.key, R1.led, by rw [hL1, m1, q4]; omega, R1.few⟩ (.inr ⟨hm, pm⟩)
      first
        | (refine wpAny_bind ?_; exact wp_if_neg (by simp [hf1]) (wpAny_pure (wpAny_pure fin)))
        | exact wp_if_neg (by simp [hf1]) (wpAny_pure fin)
  have hv : ∀ b : Bool, wpAny (model P w) A (do
        storeSet a (SetTable.insertAt es p (k.hash w, .ref x)) (if b = true then t0 else { t0 with plain := false })
        if !false && (if b = true then t0 else { t0 with plain := false }).tooFull then setRelay a (SetTable.grown (es.size + 1))
        return true) Q E s := fun b => tail _ (by cases b <;> rfl) (by cases b <;> rfl) (by cases b <;> rfl) (by cases b <;> rfl) (by cases b <;> rfl)
  by_cases hpl : t0.plain = true
  · first
      | (refine wpAny_bind ?_; refine wp_if_pos hpl (hashBy_key 8 k _ s hx.1 hx.2 _ _ ?_); exact hv _)
      | (refine wp_if_pos hpl (wpAny_bind (hashBy_key 8 k _ s hx.1 hx.2 _ _ ?_)); exact hv _)
  · first
      | (refine wpAny_bind ?_; refine wp_if_neg hpl (wpAny_pure ?_); exact hv true)
      | (refine wp_if_neg hpl (wpAny_bind (wpAny_pure ?_)); exact hv true)
end
end EV

set_option maxHeartbeats 3200000
namespace EV
open PySem PySem.Spec PyProof.Rows L2
/-! ### set(xs) -/
/-- what the set holds behind the first i items -/
structure Has (ks : List NRow) (i : Nat) (L : List NRow) : Prop where
  sub : ∀ r ∈ L, r ∈ ks.take i
  all : ∀ r ∈ ks.take i, r.2 ∈ L.map Prod.snd
  len : L.length ≤ i
theorem take_one {α : Type} {l : List α} {i : Nat} {x : α} (h : l[i]? = some x) : l.take (i + 1) = l.take i ++ [x] := by
  rw [List.take_succ, h]; rfl
theorem Has.step {ks L L' : List NRow} {i : Nat} {r : NRow} (g : Has ks i L) (h : ks[i]? = some r) (c : r.2 ∈ L.map Prod.snd ∧ L' = L ∨ r.2 ∉ L.map Prod.snd ∧ L'.Perm (r :: L)) : Has ks (i + 1) L' := by
  rcases c with ⟨hm, rfl⟩ | ⟨_, pm⟩
  · refine ⟨fun z hz => ?_, fun z hz => ?_, Nat.le_succ_of_le g.len⟩
    · rw [take_one h]; exact List.mem_append_left _ (g.sub z hz)
    · rw [take_one h] at hz
      rcases List.mem_append.mp hz with y | y
      · exact g.all z y
      · rw [List.mem_singleton.mp y]; exact hm
  · refine ⟨fun z hz => ?_, fun z hz => ?_, by rw [pm.length_eq]; exact Nat.succ_le_succ g.len⟩
    · rw [take_one h]
      rcases List.mem_cons.mp (pm.mem_iff.mp hz) with rfl | y
      · exact List.mem_append_right _ List.mem_cons_self
      · exact List.mem_append_left _ (g.sub z y)
    · rw [(pm.map Prod.snd).mem_iff]
      rw [take_one h] at hz
      rcases List.mem_append.mp hz with y | y
      · exact List.mem_cons_of_mem _ (g.all z y)
      · rw [List.mem_singleton.mp y]; exact List.mem_cons_self
section
variable {P : Program} {w : World} {A : Around} {E : Value → Shared → Prop} {s : Shared}
theorem SetN.kept {h h' : Heap} {a : Addr} {L : List NRow} {es : Array (Int × Value)} {ep : Nat} {t : SetTable} (R : SetN w h a L es ep t) (ha : ∀ o, h.get? a = some o → h'.get? a = some o) (hk : ∀ r ∈ L, IsN h' r.2 r.1) : SetN w h' a L es ep t :=
  ⟨let ⟨o, ho, z⟩ := R.ob; ⟨o, ha o ho, z⟩, R.rows, R.tab, R.nd, hk, R.led, R.room, R.few⟩
abbrev bareSet (w : World) : Obj := { cls := .type "set", dict := none, data := .set #[] 0 (.fresh 0 0 (!w.params.followText "set-order")) }
theorem setN_bare {h : Heap} {a : Addr} (ho : h.get? a = some (bareSet w)) : SetN w h a [] #[] 0 (.fresh 0 0 (!w.params.followText "set-order")) := by
  refine ⟨⟨_, ho, ⟨rfl, rfl, rfl⟩, rfl⟩, rfl, ⟨.nil, rfl, rfl, .inl rfl, nofun, fun i h j hi => by simp at hi⟩, .nil, nofun, ?_, by show 0 * 5 < 7 * 3; decide, by decide⟩
  show _ ∨ (!w.params.followText "set-order") = true
  cases w.params.followText "set-order" <;> simp
theorem loopN {I : Addr} {fp wr : List Addr} {G : Array GenState → Array GenState → Prop} {n : Nat} {Pv : Nat → Value → Prop} {St : Nat → Shared → Prop} {R : Result → Shared → Prop} (W : WalksS P w A.in1 I fp wr G n Pv St) (S : Addr) (hSf : S ∉ fp) (ks : List NRow) (hn : n = ks.length) (hfew : ks.length < 64)
    (hval : ∀ i v, Pv i v → ∃ r, ks[i]? = some r ∧ v = .ref r.1) (h0 : Heap) (hk : ∀ r ∈ ks, IsN h0 r.2 r.1) (hS0 : h0.get? S = none) (hw0 : ∀ b ∈ wr, h0.get? b = none) (hu : A.in1.units + 8 < cLine) :
    ∀ (k i : Nat) (s : Shared), n - i = k → i ≤ n → St i s → (∀ b o, h0.get? b = some o → s.heap.get? b = some o) → (∃ L es ep t, SetN w s.heap S L es ep t ∧ Has ks i L) →
      (∀ s' L es ep t, Moved (S :: wr) G s s' → SetN w s'.heap S L es ep t → Has ks n L → (∀ b o, h0.get? b = some o → s'.heap.get? b = some o) → R (.ok (.ret .none)) s') → codeAny (model P w) A (.builtin "set.update.loop" ⟨[.ref S, .ref I], []⟩) R s := by
  have hSw : S ∉ wr := fun z => hSf (W.sub _ z)
  have up : ∀ b ∈ wr, b ∈ S :: wr := fun b z => List.mem_cons_of_mem _ z
  have stay : ∀ {s s' : Shared}, Moved wr G s s' → (∀ b o, h0.get? b = some o → s.heap.get? b = some o) → ∀ b o, h0.get? b = some o → s'.heap.get? b = some o := fun m kp b o e => m.heap b o (fun z => by rw [hw0 b z] at e; cases e) (kp b o e)
  intro k
  induction k with
  | zero =>
    intro i s hi0 hi st kp ⟨L, es, ep, t, hS, g⟩ hR
    obtain rfl : i = n := by omega
    refine codeAny_builtin F.entry_set_update_loop ?_
    rw [Around.under_plainId F.plain_set_update_loop _]
    refine wpAny_bind (m := pyNext (.ref I)) (W.done s _ _ st fun s' m => ?_)
    have kp' := stay m kp
    exact wpAny_pure (hR s' L es ep t (m.mono up) (hS.kept (fun o e => m.heap S o hSw e) fun r hr => (hk r (List.mem_of_mem_take (g.sub r hr))).kept kp') g kp')
  | succ k ih =>
    intro i s hi0 hi st kp ⟨L, es, ep, t, hS, g⟩ hR
    have lt : i < n := by omega
    refine codeAny_builtin F.entry_set_update_loop ?_
    rw [Around.under_plainId F.plain_set_update_loop _]
    refine wpAny_bind (m := pyNext (.ref I)) (W.item i s _ _ lt st fun v s' hP st' m => ?_)
    obtain ⟨r, hr, rfl⟩ := hval i v hP
    have kp' := stay m kp
    have hx : IsN s'.heap r.2 r.1 := (hk r (List.mem_of_getElem? hr)).kept kp'
    refine wpAny_bind (m := holding [Value.ref r.1] (setAdd S (.ref r.1))) (wpAny_holding ?_)
    unfold setAdd
    refine wpAny_holding (wpAny_bind ((nestedKind P w).pyHash hu hx ?_))
    refine addN (s := { s' with toks := s'.toks + NestedKey.draws r.2 }) (hS.kept (fun o e => m.heap S o hSw e) fun q hq => (hk q (List.mem_of_mem_take (g.sub q hq))).kept kp') hx hu (by have := g.len; omega) fun b h' L' es' ep' t' sb hS2 c => ?_
    have kp2 : ∀ b o, h0.get? b = some o → h'.get? b = some o := fun b o e => (sb.2 b (fun z => by rw [z, hS0] at e; cases e)).trans (kp' b o e)
    refine wpAny_pure ⟨plainId_quiet F.plain_set_update_loop _, ih (i + 1) _ (by omega) lt (W.frame _ s' _ _ st' (Nat.le_add_right _ _) fun b hb o e => ?_) kp2 ⟨L', es', ep', t', hS2, g.step hr c⟩ fun s'' L2 es2 ep2 t2 m2 hS3 g3 kp3 => ?_⟩
    · exact (sb.2 b fun z => hSf (by rw [← z]; exact hb)).trans e
    · exact hR s'' L2 es2 ep2 t2 (Moved.trans W.gtrans ((m.mono up).then_heap (Nat.le_add_right _ _) fun b o hb e => (sb.2 b fun z => hb (by rw [z]; exact List.mem_cons_self)).trans e) m2) hS3 g3 kp3
theorem set_list {l : Addr} {items : Array Value} (ks : List NRow) {Q : Value → Shared → Prop} (hh : A.handled = none) (hl : s.heap.IsList l items) (hit : items.toList = ks.map fun r => Value.ref r.1)
    (hk : ∀ r ∈ ks, IsN s.heap r.2 r.1) (hfew : ks.length < 64) (hu : A.units + 11 < cLine)
    (q : ∀ (h' : Heap) (tk : Nat) L es ep t, SetN w h' s.heap.objs.size L es ep t → Has ks ks.length L → (∀ b o, s.heap.get? b = some o → h'.get? b = some o) → Q (.ref s.heap.objs.size) { s with heap := h', toks := tk }) :
    wpAny (model P w) A (call (.type "set") [.ref l]) Q E s := by
  have sz : items.size = ks.length := by rw [← Array.length_toList, hit, List.length_map]
  obtain ⟨c, tl, hmro⟩ := F.called_set.mro
  have hmade := F.called_set.made
  have hsub := F.called_set.sub
  refine wpAny_call (codeAny_of_tree ?_)
  show wpAny _ _ (callAny (.type "set") _) _ _ _
  refine wpAny_pure ⟨Code.quiet_builtin _ (by decide +kernel), codeAny_builtin F.entry_type_call ?_⟩
  rw [Around.under_plain (weight_type_call_type "set" [.ref l] []) rfl]
  have f1 := F.called_set.notType
  have f2 := F.called_set.canCreate
  have f3 := F.typeCall_set_1 (.ref l)
  repeat (any_goals (first | assumption | wp_step))
  refine codeAny_mono (code_set_led1 (.ref l) (E := E) (Q₁ := fun ob s₁ => ob = .ref s.heap.objs.size ∧ s₁ = { s with heap := s.heap.push (bareSet w) }) ⟨rfl, rfl⟩) fun r s₁ hr => ?_
  rcases r with e | fl
  · exact hr
  cases fl with
  | ret ob =>
    obtain ⟨rfl, rfl⟩ := hr
    have hS : (s.heap.push (bareSet w)).get? s.heap.objs.size = some (bareSet w) := Heap.get?_push_size _ rfl
    have hT : Shared.TypeIs { s with heap := s.heap.push (bareSet w) } (.ref s.heap.objs.size) "set" := ⟨_, hS, rfl⟩
    have f4 := F.called_set.init.lookup
    have f5 := F.called_set.init.bind (.ref s.heap.objs.size)
    repeat (any_goals (first | assumption | wp_step))
    refine codeAny_mono (codeAny_call_builtin (R := wants (fun r s₂ => r = .none ∧ ∃ h' tk L es ep t, s₂ = { s with heap := h', toks := tk } ∧ SetN w h' s.heap.objs.size L es ep t ∧ Has ks ks.length L ∧ (∀ b o, s.heap.get? b = some o → h'.get? b = some o)) E)
      F.called_set.init.plain F.entry_set_init (check_set_init_1 hT ?_)) fun r₂ s₂ hr₂ => ?_
    · obtain ⟨⟨ocls, odict, odata, oslots⟩, hol, hcl, nl, hdl⟩ := hl
      simp only at hcl hdl
      subst hcl hdl
      have hol' : (s.heap.push (bareSet w)).get? l = some { cls := .type "list", dict := odict, data := .seq items nl, slots := oslots } := Heap.get?_push_of_some _ hol
      have g1 := F.sub_list_set
      have g2 := F.sub_list_frozenset
      have g3 : (Value.type "list" == Value.type "dict") = false := by decide
      have hl1 : (s.heap.push (bareSet w)).IsList l items := ⟨_, hol', rfl, nl, rfl⟩
      unfold Builtin.«set.__init__» noKeywords Builtin.Frozenset.updateFrom
      generalize hPI : pyIter = PI
      wp_walk
      subst hPI
      refine wpAny_pyIter_list hl1 (wpAny_bind (wpAny_runValue ?_))
      have lt : l < s.heap.objs.size := Heap.lt_size hol
      have hh3 : A.in1.in1.in1.handled = none := by simp [hh]
      have z1 : (s.heap.push (bareSet w)).objs.size = s.heap.objs.size + 1 := Heap.size_push ..
      have ne1 : l ≠ (s.heap.push (bareSet w)).objs.size := by rw [z1]; exact Nat.ne_of_lt (Nat.lt_succ_of_lt lt)
      have nf : s.heap.objs.size ∉ [(s.heap.push (bareSet w)).objs.size, l] := by
        rw [z1]
        simp only [List.mem_cons, List.not_mem_nil, or_false, not_or]
        exact ⟨Nat.ne_of_lt (Nat.lt_succ_self _), Nat.ne_of_gt lt⟩
      have val : ∀ (i : Nat) (v : Value), items[i]? = some v → ∃ r, ks[i]? = some r ∧ v = .ref r.1 := fun i v hv => by
        rw [← Array.getElem?_toList, hit, List.getElem?_map] at hv
        obtain ⟨r, h1, h2⟩ := Option.map_eq_some_iff.mp hv
        exact ⟨r, h1, h2.symm⟩
      have none_ : ∀ b, s.heap.objs.size ≤ b → s.heap.get? b = none := fun b hb => by
        cases e : s.heap.get? b with
        | none => rfl
        | some o => exact absurd (Nat.lt_of_lt_of_le (Heap.lt_size e) hb) (Nat.lt_irrefl _)
      refine loopN (A := A.in1.in1) (Walks.list hh3 _ l ne1 items).toS s.heap.objs.size nf ks sz hfew val s.heap hk (none_ _ (Nat.le_refl _)) (fun b hb => none_ b (by rw [List.mem_singleton.mp hb, z1]; omega)) (by simp; omega) (items.size - 0) 0 _ (by omega) (Nat.zero_le _)
        ⟨⟨_, Heap.get?_push_size _ rfl, rfl, rfl⟩, (hl1.push _)⟩ (fun b o e => Heap.get?_push_of_some _ (Heap.get?_push_of_some _ e)) ⟨[], #[], 0, _, setN_bare (Heap.get?_push_of_some _ hS), ⟨nofun, nofun, Nat.le_refl _⟩⟩ fun s' L es ep t m hS' g' kp => ?_
      obtain ⟨h', g2, d', tk', os'⟩ := s'
      obtain rfl : g2 = s.gens := m.gens
      obtain rfl : d' = s.drawn := m.drawn
      obtain rfl : os' = s.os := m.os
      rw [sz] at g'
      exact wpAny_pure (wpAny_pure ⟨rfl, h', tk', L, es, ep, t, rfl, hS', g', kp⟩)
    · rcases r₂ with e | fl₂
      · exact hr₂
      cases fl₂ with
      | ret r =>
        obtain ⟨rfl, h', tk, L, es, ep, t, rfl, hS', g', hk'⟩ := hr₂
        repeat (any_goals (first | assumption | wp_step))
        exact q _ _ _ _ _ _ hS' g' hk'
      | _ => exact hr₂.elim
  | _ => exact hr.elim
end
end EV

set_option maxHeartbeats 1000000
namespace EV
open PySem PySem.Spec PyProof.Rows L2
mutual
theorem alike_eqv : ∀ (x y : D), PySem.W.alike x y = true → PyData.eqv x y = true → x = y
  | .none, y, h, e => by cases y <;> first | rfl | cases h
  | .bool a, y, h, e => by
    cases y with
    | bool b => simp [PyData.eqv] at e; rw [e]
    | _ => cases h
  | .int a, y, h, e => by
    cases y with
    | int b => simp [PyData.eqv] at e; rw [e]
    | _ => cases h
  | .str a, y, h, e => by
    cases y with
    | str b => simp [PyData.eqv] at e; rw [e]
    | _ => cases h
  | .list xs, y, h, e => by
    cases y with
    | list ys => rw [alike_eqvs xs ys (by simpa [PySem.W.alike] using h) (by simpa [PyData.eqv] using e)]
    | _ => cases h
  | .tuple xs, y, h, e => by
    cases y with
    | tuple ys => rw [alike_eqvs xs ys (by simpa [PySem.W.alike] using h) (by simpa [PyData.eqv] using e)]
    | _ => cases h
  | .dict _, y, h, e => by cases y <;> cases h
theorem alike_eqvs : ∀ (xs ys : List D), PySem.W.alikeAll xs ys = true → PyData.eqvAll xs ys = true → xs = ys
  | [], [], _, _ => rfl
  | [], y :: ys, _, e => by simp [PyData.eqvAll] at e
  | x :: xs, [], _, e => by simp [PyData.eqvAll] at e
  | x :: xs, y :: ys, h, e => by
    rw [PySem.W.alikeAll, Bool.and_eq_true] at h
    rw [PyData.eqvAll, Bool.and_eq_true] at e
    rw [alike_eqv x y h.1 e.1, alike_eqvs xs ys h.2 e.2]
end
mutual
theorem alike_key : ∀ (x y : D) (k : NestedKey), PySem.W.alike x y = true → keyD x = some k → keyD y = some k → x = y
  | .none, y, k, h, _, _ => by cases y <;> first | rfl | cases h
  | .bool a, y, k, h, e, e' => by
    cases y with
    | bool b => cases a <;> cases b <;> simp [keyD] at e e' <;> first | rfl | (rw [← e] at e'; cases e')
    | _ => cases h
  | .int a, y, k, h, e, e' => by
    cases y with
    | int b => simp only [keyD, Option.some.injEq] at e e'; rw [← e] at e'; cases e'; rfl
    | _ => cases h
  | .str a, y, k, h, e, e' => by
    cases y with
    | str b => simp only [keyD, Option.some.injEq] at e e'; rw [← e] at e'; cases e'; rfl
    | _ => cases h
  | .list xs, y, k, h, e, e' => by cases e
  | .tuple xs, y, k, h, e, e' => by
    cases y with
    | tuple ys =>
      simp only [keyD] at e e'
      obtain ⟨ks, e1, rfl⟩ := Option.map_eq_some_iff.mp e
      obtain ⟨ks', e2, e3⟩ := Option.map_eq_some_iff.mp e'
      cases e3
      rw [alike_keys xs ys ks (by simpa [PySem.W.alike] using h) e1 e2]
    | _ => cases h
  | .dict _, y, k, h, e, e' => by cases e
theorem alike_keys : ∀ (xs ys : List D) (ks : List NestedKey), PySem.W.alikeAll xs ys = true → keysD xs = some ks → keysD ys = some ks → xs = ys
  | [], [], _, _, _, _ => rfl
  | [], y :: ys, ks, _, e, e' => by
    simp only [keysD, Option.some.injEq] at e
    subst e
    obtain ⟨_, _, e'⟩ := Option.bind_eq_some_iff.mp e'
    obtain ⟨_, _, e'⟩ := Option.map_eq_some_iff.mp e'
    cases e'
  | x :: xs, [], ks, _, e, e' => by
    simp only [keysD, Option.some.injEq] at e'
    subst e'
    obtain ⟨_, _, e⟩ := Option.bind_eq_some_iff.mp e
    obtain ⟨_, _, e⟩ := Option.map_eq_some_iff.mp e
    cases e
  | x :: xs, y :: ys, ks, h, e, e' => by
    rw [PySem.W.alikeAll, Bool.and_eq_true] at h
    simp only [keysD] at e e'
    obtain ⟨k, k1, e⟩ := Option.bind_eq_some_iff.mp e
    obtain ⟨kr, k2, rfl⟩ := Option.map_eq_some_iff.mp e
    obtain ⟨k', k3, e'⟩ := Option.bind_eq_some_iff.mp e'
    obtain ⟨kr', k4, e5⟩ := Option.map_eq_some_iff.mp e'
    cases e5
    rw [alike_key x y k h.1 k1 k3, alike_keys xs ys kr h.2 k2 k4]
end
theorem ded_mem : ∀ {xs : List D}, (∀ x ∈ xs, ∀ y ∈ xs, PySem.W.alike x y = true) → ∀ z, z ∈ dedE xs ↔ z ∈ xs
  | [], _, z => Iff.rfl
  | x :: r, h, z => by
    have ih := ded_mem (xs := r) (fun a ha b hb => h a (List.mem_cons_of_mem _ ha) b (List.mem_cons_of_mem _ hb)) z
    unfold dedE
    cases c : r.any fun y => PyData.eqv x y with
    | true =>
      rw [cond_true, ih, List.mem_cons]
      refine ⟨.inr, fun hz => hz.elim (fun e => ?_) id⟩
      obtain ⟨y, hy, e2⟩ := List.any_eq_true.mp c
      have := alike_eqv x y (h x List.mem_cons_self y (List.mem_cons_of_mem _ hy)) e2
      rw [e, this]; exact hy
    | false => rw [cond_false, List.mem_cons, List.mem_cons, ih]
theorem ded_nodup : ∀ {xs : List D}, (∀ x ∈ xs, ∀ y ∈ xs, PySem.W.alike x y = true) → (dedE xs).Nodup
  | [], _ => .nil
  | x :: r, h => by
    have hr : ∀ a ∈ r, ∀ b ∈ r, PySem.W.alike a b = true := fun a ha b hb => h a (List.mem_cons_of_mem _ ha) b (List.mem_cons_of_mem _ hb)
    unfold dedE
    cases c : r.any fun y => PyData.eqv x y with
    | true => exact ded_nodup hr
    | false =>
      rw [cond_false]
      refine List.nodup_cons.mpr ⟨fun hm => ?_, ded_nodup hr⟩
      have hx := (ded_mem hr x).mp hm
      have hxx := h x List.mem_cons_self x List.mem_cons_self
      have := List.any_eq_false.mp c x hx
      exact this (PySem.W.eqv_refl_alike x hxx)
/-- two lists of the same, in order -/
theorem sorted_one {α : Type} {le : α → α → Bool} : ∀ {xs ys : List α}, xs.Perm ys → xs.Pairwise (fun a b => le a b = true) → ys.Pairwise (fun a b => le a b = true) → (∀ a ∈ xs, ∀ b ∈ xs, le a b = true → le b a = true → a = b) → xs = ys
  | [], ys, p, _, _, _ => by rw [List.nil_perm.mp p]
  | x :: xs, [], p, _, _, _ => by have := p.length_eq; simp at this
  | x :: xs, y :: ys, p, sx, sy, an => by
    have e : x = y := by
      have h1 : y ∈ x :: xs := p.mem_iff.mpr List.mem_cons_self
      have h2 : x ∈ y :: ys := p.mem_iff.mp List.mem_cons_self
      rcases List.mem_cons.mp h1 with h | h
      · exact h.symm
      · rcases List.mem_cons.mp h2 with h' | h'
        · exact h'
        · exact an x List.mem_cons_self y h1 ((List.pairwise_cons.mp sx).1 y h) ((List.pairwise_cons.mp sy).1 x h')
    subst e
    rw [sorted_one (List.perm_cons x |>.mp p) (List.pairwise_cons.mp sx).2 (List.pairwise_cons.mp sy).2 fun a ha b hb => an a (List.mem_cons_of_mem _ ha) b (List.mem_cons_of_mem _ hb)]
theorem dataLe_sorts : ∀ xs : List D, (xs.mergeSort (PySem.W.dataLe false id)).Pairwise fun a b => PySem.W.dataLe false id a b = true := fun xs =>
  List.pairwise_mergeSort (fun a b c h1 h2 => (PySem.W.sortLe_total (listOrd itemOrd) false fun b => PySem.W.keyToks (id b)).trans a b c h1 h2) (fun a b => Bool.or_eq_true_iff.mpr ((PySem.W.sortLe_total (listOrd itemOrd) false fun b => PySem.W.keyToks (id b)).total a b)) xs
theorem dataLe_anti {x y : D} (h : PySem.W.alike x y = true) (h1 : PySem.W.dataLe false id x y = true) (h2 : PySem.W.dataLe false id y x = true) : x = y := by
  have g1 : lexLt itemOrd (PySem.W.keyToks y) (PySem.W.keyToks x) = false := by
    have : (!lexLt itemOrd (PySem.W.keyToks y) (PySem.W.keyToks x)) = true := h1
    simpa using this
  have g2 : lexLt itemOrd (PySem.W.keyToks x) (PySem.W.keyToks y) = false := by
    have : (!lexLt itemOrd (PySem.W.keyToks x) (PySem.W.keyToks y)) = true := h2
    simpa using this
  have e : PySem.W.keyToks x = PySem.W.keyToks y := (listOrd itemOrd).total _ _ g2 g1
  refine alike_eqv x y h ?_
  cases c : PyData.eqv x y with
  | true => rfl
  | false =>
    exfalso
    have := (PySem.W.toks_eqv x y h).2 c [] [.inl 0]
    rw [← e] at this
    rw [show lexLt itemOrd (PySem.W.keyToks x) (PySem.W.keyToks x) = false from (listOrd itemOrd).irrefl _] at this
    have l2 := PySem.W.lex_pre (PySem.W.keyToks x) [] [.inl 0]
    rw [this] at l2
    exact absurd l2 (by decide)
theorem sort_same {xs ys : List D} (p : xs.Perm ys) (h : ∀ x ∈ xs, ∀ y ∈ xs, PySem.W.alike x y = true) : xs.mergeSort (PySem.W.dataLe false id) = ys.mergeSort (PySem.W.dataLe false id) := by
  refine sorted_one (((List.mergeSort_perm xs _).trans p).trans (List.mergeSort_perm ys _).symm) (dataLe_sorts xs) (dataLe_sorts ys) fun a ha b hb => dataLe_anti (h a ?_ b ?_)
  · exact (List.mergeSort_perm xs _).mem_iff.mp ha
  · exact (List.mergeSort_perm xs _).mem_iff.mp hb
section
variable {K : PySem.W.Frag} {w : World} {O : Addr → Prop} {H : Hp} {X : Cx}
mutual
/-- data of the layer are such keys -/
theorem ro_nest {pins : List (Addr × Obj)} {s : Shared} {σ : L2.St} (I : Inv X pins σ H s) : ∀ {v : V} {d : D}, Ro X.K X.w O H v d → ∀ (k : NestedKey) (u : Value), keyD d = some k → RelV v u → NestedIs s.heap k u
  | _, _, .non, k, u, e, r => by cases e; cases r; exact .none
  | _, _, .bl b, k, u, e, r => by cases e; cases r; exact .bool rfl
  | _, _, .int i, k, u, e, r => by cases e; obtain ⟨t, rfl⟩ := r; exact .int i t
  | _, _, .str x h, k, u, e, r => by cases e; obtain ⟨t, rfl⟩ := r; exact .text x t
  | _, _, .lst hr ho ha, k, u, e, r => by cases e
  | _, _, .kls hr ha, k, u, e, r => by cases e
  | _, _, .tup hr ha, k, u, e, r => by
    obtain ⟨ks, e1, rfl⟩ := Option.map_eq_some_iff.mp e
    cases r
    obtain ⟨its, rv, ⟨o, ho, hc, n, hd⟩, _⟩ := I.tuple hr
    exact .tup ho hc hd (by simpa using ros_nest I ha ks its e1 rv)
  | _, _, .kdc hd h1 h2 h3, k, u, e, r => by cases e
  | _, _, .exc h1 h2 h3 h4, k, u, e, r => by cases e
theorem ros_nest {pins : List (Addr × Obj)} {s : Shared} {σ : L2.St} (I : Inv X pins σ H s) : ∀ {vs : List V} {ds : List D}, RoAll X.K X.w O H vs ds → ∀ (ks : List NestedKey) (us : List Value), keysD ds = some ks → Vals vs us → NestedAll s.heap ks us
  | _, _, .nil, ks, us, e, r => by cases e; cases r; exact .nil
  | _, _, .cons h t, ks, us, e, r => by
    obtain ⟨k, k1, e⟩ := Option.bind_eq_some_iff.mp (show (keyD _).bind _ = some ks from e)
    obtain ⟨kr, k2, rfl⟩ := Option.map_eq_some_iff.mp e
    cases r with
    | cons r1 r2 => exact .cons (ro_nest I h k _ k1 r1) (ros_nest I t kr _ k2 r2)
end
end
end EV

namespace EV
open PySem PySem.Spec PyProof.Rows L2
theorem perm_of_map {α β : Type} {f : α → β} : ∀ {vs ws : List β}, vs.Perm ws → ∀ L : List α, ws = L.map f → ∃ L1 : List α, vs = L1.map f ∧ L1.Perm L := by
  intro vs ws p
  induction p with
  | nil => intro L e; exact ⟨L, e, .refl _⟩
  | cons x _ ih =>
    intro L e
    cases L with
    | nil => cases e
    | cons y L =>
      simp only [List.map_cons, List.cons.injEq] at e
      obtain ⟨L1, e1, p1⟩ := ih L e.2
      exact ⟨y :: L1, by rw [e.1, e1]; rfl, p1.cons y⟩
  | swap x y l =>
    intro L e
    match L, e with
    | [], e => cases e
    | [_], e => cases e
    | a :: b :: L, e =>
      simp only [List.map_cons, List.cons.injEq] at e
      exact ⟨b :: a :: L, by rw [e.1, e.2.1, e.2.2]; rfl, .swap a b L⟩
  | trans _ _ ih1 ih2 =>
    intro L e
    obtain ⟨L2, e2, p2⟩ := ih2 L e
    obtain ⟨L1, e1, p1⟩ := ih1 L2 e2
    exact ⟨L1, e1, p1.trans p2⟩
theorem setOk_ok {ds : List D} (h : setOk ds = true) : (∀ x ∈ ds, ∀ y ∈ ds, PySem.W.alike x y = true) ∧ (∀ x ∈ ds, keyOk x = true) ∧ dles 60 ds = true ∧ ds.length < 64 := by
  unfold setOk at h
  simp only [Bool.and_eq_true, List.all_eq_true] at h
  exact ⟨h.1, h.2.1, h.2.2.1, of_decide_eq_true h.2.2.2⟩
theorem keyOk_ok {d : D} (h : keyOk d = true) : (∃ x r, d = .tuple (x :: r)) ∧ ∃ k, keyD d = some k ∧ k.depth ≤ 8 := by
  unfold keyOk at h
  rw [Bool.and_eq_true] at h
  refine ⟨?_, ?_⟩
  · have h1 := h.1
    unfold isTupN at h1
    split at h1
    · exact ⟨_, _, rfl⟩
    · cases h1
  · have h2 := h.2
    split at h2
    · rename_i k e; exact ⟨k, e, of_decide_eq_true h2⟩
    · cases h2
section
variable {X : Cx} {O : Addr → Prop} {H : Hp} {σ : L2.St} {pins : List (Addr × Obj)} {s : Shared} {a : Addr} {L : List NRow} {es : Array (Int × Value)} {ep : Nat} {t : SetTable} {ds : List D}
/-- a row stands for one of the data -/
def Stands (X : Cx) (O : Addr → Prop) (H : Hp) (ds : List D) (r : NRow) : Prop := ∃ d ∈ ds, keyD d = some r.2 ∧ Ro X.K X.w O H (.ref r.1) d
theorem rows_of (I : Inv X pins σ H s) : ∀ {vs : List V} {us : List Value} {ds : List D}, Vals vs us → RoAll X.K X.w O H vs ds → (∀ d ∈ ds, keyOk d = true) → ∃ ks : List NRow, us = ks.map (fun r => Value.ref r.1) ∧ ks.length = ds.length ∧ (∀ r ∈ ks, IsN s.heap r.2 r.1 ∧ Stands X O H ds r) ∧ ∀ d ∈ ds, ∃ r ∈ ks, keyD d = some r.2
  | _, _, _, .nil, .nil, _ => ⟨[], rfl, rfl, nofun, nofun⟩
  | _, _, d :: ds, .cons r1 r2, .cons h t, hk => by
    obtain ⟨ks, e1, e2, e3, e4⟩ := rows_of I r2 t fun x hx => hk x (List.mem_cons_of_mem _ hx)
    obtain ⟨⟨x, r, rfl⟩, k, hk1, hk2⟩ := keyOk_ok (hk d List.mem_cons_self)
    have h' := h
    cases h with
    | @tup b xs _ h1 h2 =>
      cases r1
      refine ⟨(b, k) :: ks, by rw [e1]; rfl, by rw [List.length_cons, e2]; rfl, fun r hr => ?_, fun d hd => ?_⟩
      · rcases List.mem_cons.mp hr with rfl | hr
        · exact ⟨⟨ro_nest I h' k _ hk1 rfl, hk2⟩, _, List.mem_cons_self, hk1, h'⟩
        · obtain ⟨g1, d, g2, g3⟩ := e3 r hr
          exact ⟨g1, d, List.mem_cons_of_mem _ g2, g3⟩
      · rcases List.mem_cons.mp hd with rfl | hd
        · exact ⟨(b, k), List.mem_cons_self, hk1⟩
        · obtain ⟨r, g1, g2⟩ := e4 d hd
          exact ⟨r, List.mem_cons_of_mem _ g1, g2⟩
theorem pick_data : ∀ L1 : List NRow, (∀ r ∈ L1, Stands X O H ds r) → ∃ zs : List D, PySem.W.EachIs (fun u d => ∃ v, RelV v u ∧ Ro X.K X.w O H v d) (L1.map fun r => Value.ref r.1) zs ∧ zs.map keyD = L1.map (fun r => some r.2) ∧ ∀ z ∈ zs, z ∈ ds
  | [], _ => ⟨[], .nil, rfl, nofun⟩
  | r :: L1, h => by
    obtain ⟨zs, e1, e2, e3⟩ := pick_data L1 fun x hx => h x (List.mem_cons_of_mem _ hx)
    obtain ⟨d, hd, hk, hr⟩ := h r List.mem_cons_self
    refine ⟨d :: zs, .cons ⟨V.ref r.1, rfl, hr⟩ e1, by rw [List.map_cons, List.map_cons, hk, e2], fun z hz => ?_⟩
    rcases List.mem_cons.mp hz with rfl | hz
    · exact hd
    · exact e3 z hz
theorem keys_nodup {zs : List D} {L1 : List NRow} (e : zs.map keyD = L1.map fun r => some r.2) (n : (L1.map Prod.snd).Nodup) : zs.Nodup := by
  have h : (zs.map keyD).Nodup := by
    rw [e]
    have : (L1.map fun r => some r.2) = (L1.map Prod.snd).map some := by rw [List.map_map]; rfl
    rw [this]
    exact List.pairwise_map.mpr (n.imp fun hne z => hne (Option.some.inj z))
  exact List.Pairwise.of_map keyD (fun x y hne z => hne (by rw [z])) h
theorem each_imp {R R' : Value → D → Prop} (h : ∀ u d, R u d → R' u d) : ∀ {us : List Value} {ds : List D}, PySem.W.EachIs R us ds → PySem.W.EachIs R' us ds
  | _, _, .nil => .nil
  | _, _, .cons x t => .cons (h _ _ x) (each_imp h t)
theorem picked {zs : List D} {L1 : List NRow} (hd : setOk ds = true) (e : zs.map keyD = L1.map fun r => some r.2) (hz : ∀ z ∈ zs, z ∈ ds) (nL : (L1.map Prod.snd).Nodup) (hall : ∀ d ∈ ds, ∃ r ∈ L1, keyD d = some r.2) : zs.Perm (dedE ds) := by
  obtain ⟨c1, _, _, _⟩ := setOk_ok hd
  refine (List.perm_ext_iff_of_nodup (keys_nodup e nL) (ded_nodup c1)).mpr fun z => ⟨fun m => (ded_mem c1 z).mpr (hz z m), fun m => ?_⟩
  have m := (ded_mem c1 z).mp m
  obtain ⟨r, hr, hk⟩ := hall z m
  have : some r.2 ∈ zs.map keyD := by rw [e]; exact List.mem_map.mpr ⟨r, hr, rfl⟩
  obtain ⟨z', hz', e'⟩ := List.mem_map.mp this
  have := alike_key z z' r.2 (c1 z m z' (hz z' hz')) hk e'
  rw [this]; exact hz'
theorem each_of {R R' : Value → D → Prop} (h : ∀ u d, R u d → R' u d) {us : List Value} {ds : List D} (e : PySem.W.EachIs R us ds) : PySem.W.EachIs R' us ds := each_imp h e
theorem each_len {R : Value → D → Prop} : ∀ {us : List Value} {ds : List D}, PySem.W.EachIs R us ds → us.length = ds.length
  | _, _, .nil => rfl
  | _, _, .cons _ t => by rw [List.length_cons, List.length_cons, each_len t]
theorem reads_sub (I : Inv X pins σ H s) : ∀ {us : List Value} {zs : List D}, PySem.W.EachIs (fun u d => ∃ v, RelV v u ∧ Ro X.K X.w O H v d) us zs → (∀ z ∈ zs, dle 60 z = true) → PySem.W.EachIs (fun u d => ∃ as, Reads s.heap u d as) us zs
  | _, _, .nil, _ => .nil
  | _, _, .cons ⟨v, r, h⟩ t, e => .cons (Dp.reads I _ _ _ (h.dp 60 (e _ List.mem_cons_self)).1 r) (reads_sub I t fun z hz => e z (List.mem_cons_of_mem _ hz))
theorem sorted_setN (I : Inv X pins σ H s) (hh : X.A.handled = none) (hu : X.A.units + 65 < cLine) (R : SetN X.w s.heap a L es ep t) (hO : OkO O H) (hd : setOk ds = true) (hL : ∀ r ∈ L, Stands X O H ds r) (hall : ∀ d ∈ ds, ∃ r ∈ L, keyD d = some r.2) {Q : VK}
    (q : ∀ H' v, Same H H' → Ro X.K X.w O H' v (.list ((dedE ds).mergeSort (PySem.W.dataLe false id))) → Q v H') : wpAny (model X.prog X.w) X.A (call (.builtin "sorted") [.ref a]) (EP X pins σ Q) X.xe s := by
  obtain ⟨o, ho, hex, hda⟩ := R.ob
  have hsz := R.len
  have hfew := R.few
  obtain ⟨c1, c2, c3, c4⟩ := setOk_ok hd
  refine Calls.call_function_entry kind_sorted plain_sorted entry_sorted (args_sorted1 _) ?_
  unfold Builtin.«sorted»
  refine wpAny_bind (m := checkCount "sorted" 1 1 _) (wpAny_pure ?_)
  refine wpAny_bind (collect_set (A := X.A.in1) hh ⟨o, ho, hex.1, hda⟩ R.fits (by unfold scanBound; omega) R.tab.ris R.led fun s1 vs k1 hz g1 o1 pm => ?_)
  rw [R.rows, rowsN, List.map_map] at pm
  obtain ⟨L1, rfl, pL⟩ := perm_of_map pm L rfl
  obtain ⟨zs, e1, e2, e3⟩ := pick_data L1 fun r hr => hL r (pL.mem_iff.mp hr)
  have e1 : PySem.W.EachIs (fun u d => ∃ v, RelV v u ∧ Ro X.K X.w O H v d) (L1.map ((fun x => x.2) ∘ fun r : NRow => (r.2.hash X.w, Value.ref r.1))) zs := e1
  have pz : zs.Perm (dedE ds) := picked hd e2 e3 ((pL.map Prod.snd).nodup_iff.mpr R.nd) fun d m => let ⟨r, h1, h2⟩ := hall d m; ⟨r, pL.mem_iff.mpr h1, h2⟩
  have hz1 : zs.length < 64 := by rw [← each_len e1, List.length_map, pL.length_eq]; exact hfew
  have hvl := each_len e1
  generalize L1.map ((fun x => x.2) ∘ fun r : NRow => (r.2.hash X.w, Value.ref r.1)) = vs at e1 hvl
  refine wpAny_bind (wpAny_newList ?_ (by rw [sizeLine_eq]; omega))
  have hoL : (s1.heap.push (seqObj "list" vs.toArray 0)).get? s1.heap.objs.size = some (seqObj "list" vs.toArray 0) := Heap.get?_push_size _ rfl
  have keep2 : ∀ b u, s.heap.get? b = some u → (s1.heap.push (seqObj "list" vs.toArray 0)).get? b = some u := fun b u e => Heap.get?_push_of_some _ (k1 b u e)
  have fresh : s.heap.get? s1.heap.objs.size = none := by
    cases e : s.heap.get? s1.heap.objs.size with
    | none => rfl
    | some u => exact absurd (Nat.lt_of_lt_of_le (Heap.lt_size e) hz) (Nat.lt_irrefl _)
  have er := reads_sub I e1 fun z m => dles_mem c3 z (e3 z m)
  refine wpAny_bind (wpAny_holding (PySem.W.list_sort_data (s := { s1 with heap := s1.heap.push (seqObj "list" vs.toArray 0) }) (enc := id) (bs := zs) hoL e1 (each_imp (fun u d ⟨as, r⟩ => ⟨as, PyProof.Rows.Reads.keeps keep2 r, fun m => ?rm⟩) er) ?al ?so (by rw [sizeLine_eq]; omega) (fun z m => ?dp) fun out ho2 eo => ?fin))
  case rm =>
    obtain ⟨u', hu'⟩ := PyProof.On.reads_mem_get r _ m
    rw [fresh] at hu'
    cases hu'
  case al =>
    rw [List.map_id]
    exact fun x hx y hy => c1 x (e3 x hx) y (e3 y hy)
  case so =>
    rw [List.map_id]
    exact .inl fun x hx => (keyOk_ok (c2 x (e3 x hx))).1
  case dp =>
    have := dle_depth 60 z (dles_mem c3 z (e3 z m))
    show X.A.in1.units + 1 + z.depth < cLine
    simp only [Around.in1_units]
    omega
  case fin =>
    obtain ⟨vs', r', h'⟩ := each_vals eo
    obtain ⟨c, hc⟩ := sortedHeap_at (vs := vs) (out := out.toArray) hoL
    rw [sort_same pz fun x hx y hy => c1 x (e3 x hx) y (e3 y hy)] at h'
    have hlen : vs'.length ≤ sizeLine := by
      rw [r'.length, ho2, sizeLine_eq]; omega
    have hn : H s1.heap.objs.size = none := I.hok.fresh hz
    have kf : ∀ b u, s.heap.get? b = some u → (sortedHeap (s1.heap.push (seqObj "list" vs.toArray 0)) s1.heap.objs.size vs out.toArray).get? b = some u := fun b u e => by
      have hlt := Heap.lt_size (k1 b u e)
      rw [sortedHeap_old (Nat.ne_of_lt hlt) (by rw [size_push']; exact Nat.lt_succ_of_lt hlt)]
      exact keep2 b u e
    have J : Inv X pins σ (upd H s1.heap.objs.size (.lst vs')) { s1 with heap := sortedHeap (s1.heap.push (seqObj "list" vs.toArray 0)) s1.heap.objs.size vs out.toArray } :=
      I.call' (ch := []) o1 (Un.laid kf hz hn) (I.hok.laid kf hz ⟨hlen, out, c, r', hc⟩) (by show AllBare s1.gens; rw [g1]; exact I.bare) (fun _ z => nomatch z)
    exact wpAny_pure ⟨_, rfl, .ref _, _, J, rfl, q _ _ (same_upd hn) (Ro.newL hO hn h')⟩
end
end EV

namespace EV
open PySem PySem.Spec PyProof.Rows L2
section
variable {X : Cx} {b : Bool} {p p2 q pos : Pos} {a : Expr} {f : List Sl → Option D}
theorem se_sset (hc : X.calm = true) (hu : X.A.units + 65 < cLine) (hg : Gl X "sorted") (hm : X.mg "sorted" = none) (hg2 : Gl X "set") (hm2 : X.mg "set" = none) (hs : isStar a = false) (ha : SE X true a f) :
    SE X b (.Call (.Name "sorted" p) [.Call (.Name "set" p2) [a] [] q] [] pos) fun σ => (f σ).bind fun d => ssetD [d] := by
  have na : starEach [a] X.env = (false, eval a X.env) :: starEach [] X.env := starEach_cons (star_no hs) _
  refine ⟨fun pins s σ H Q I ⟨O, Ow, es, d, hO, F, e, qq⟩ => ?_⟩
  obtain ⟨d0, e1, e2⟩ := bind_some e
  have hh := I.ok.hd hc
  refine Call_ (ld_blt I hg hm PyProof.Rows.boot_sorted ?_)
  refine PyProof.Rows.callWith_builtin1 (PyProof.Rows.args_cons ?_ rfl) rfl rfl
  refine Call_ (ld_blt I hg2 hm2 PyProof.Rows.boot_set ?_)
  refine PyProof.Rows.callWith_type1 (PyProof.Rows.args_cons (thn (ha.run pins s σ H _ I ⟨O, Ow, es, d0, hO, F, e1, fun H1 v s1 r1 => (⟨s1, r1⟩ : Same H H1 ∧ RoB X.K X.w O H1 true v d0)⟩) fun v s1 ⟨x, H1, I1, r1, s2, ro⟩ => PyProof.Rows.args_nil ?_) na) na rfl
  cases d0 with
  | list ds =>
    obtain ⟨c, e2⟩ := cond_some (show cond (setOk ds) _ none = some d from e2)
    obtain ⟨c1, c2, c3, c4⟩ := setOk_ok c
    obtain ⟨l, vs, rfl, h1, h2⟩ := ro.list
    cases r1
    obtain ⟨its, rv, hl, _⟩ := I1.list h1
    obtain ⟨ks, k1, k2, k3, k4⟩ := rows_of I1 rv h2 c2
    refine set_list (P := X.prog) (w := X.w) ks hh hl.isList (by simpa using k1) (fun r hr => (k3 r hr).1) (by omega) (by omega) fun h' tk L es' ep t R g kk => ?_
    refine PyProof.Rows.args_nil ?_
    have I2 : Inv X pins σ H1 { s1 with heap := h', toks := tk } := I1.kept kk
    have sub : ∀ r ∈ L, r ∈ ks := fun r hr => List.mem_of_mem_take (g.sub r hr)
    have all : ∀ d ∈ ds, ∃ r ∈ L, keyD d = some r.2 := fun d hd => by
      obtain ⟨r, hr, hk⟩ := k4 d hd
      obtain ⟨r', hr', e⟩ := List.mem_map.mp (g.all r (by rw [List.take_length]; exact hr))
      exact ⟨r', hr', by rw [hk, e]⟩
    exact sorted_setN I2 hh hu R (hO.same s2) c (fun r hr => (k3 r (sub r hr)).2) all fun H' v s3 r3 => qq H' v (s2.trans s3) (.inl (by rw [← Option.some.inj e2]; exact r3))
  | _ => cases e2
theorem se_lset (hc : X.calm = true) (hu : X.A.units + 65 < cLine) (hg : Gl X "len") (hm : X.mg "len" = none) (hg2 : Gl X "set") (hm2 : X.mg "set" = none) (hs : isStar a = false) (ha : SE X true a f) :
    SE X b (.Call (.Name "len" p) [.Call (.Name "set" p2) [a] [] q] [] pos) fun σ => (f σ).bind fun d => lsetD [d] := by
  have na : starEach [a] X.env = (false, eval a X.env) :: starEach [] X.env := starEach_cons (star_no hs) _
  refine ⟨fun pins s σ H Q I ⟨O, Ow, es, d, hO, F, e, qq⟩ => ?_⟩
  obtain ⟨d0, e1, e2⟩ := bind_some e
  have hh := I.ok.hd hc
  refine Call_ (ld_blt I hg hm PySem.boot_len ?_)
  refine PyProof.Rows.callWith_builtin1 (PyProof.Rows.args_cons ?_ rfl) rfl rfl
  refine Call_ (ld_blt I hg2 hm2 PyProof.Rows.boot_set ?_)
  refine PyProof.Rows.callWith_type1 (PyProof.Rows.args_cons (thn (ha.run pins s σ H _ I ⟨O, Ow, es, d0, hO, F, e1, fun H1 v s1 r1 => (⟨s1, r1⟩ : Same H H1 ∧ RoB X.K X.w O H1 true v d0)⟩) fun v s1 ⟨x, H1, I1, r1, s2, ro⟩ => PyProof.Rows.args_nil ?_) na) na rfl
  cases d0 with
  | list ds =>
    obtain ⟨c, e2⟩ := cond_some (show cond (setOk ds) _ none = some d from e2)
    obtain ⟨c1, c2, c3, c4⟩ := setOk_ok c
    obtain ⟨l, vs, rfl, h1, h2⟩ := ro.list
    cases r1
    obtain ⟨its, rv, hl, _⟩ := I1.list h1
    obtain ⟨ks, k1, k2, k3, k4⟩ := rows_of I1 rv h2 c2
    refine set_list (P := X.prog) (w := X.w) ks hh hl.isList (by simpa using k1) (fun r hr => (k3 r hr).1) (by omega) (by omega) fun h' tk L es' ep t R g kk => ?_
    refine PyProof.Rows.args_nil ?_
    have I2 : Inv X pins σ H1 { s1 with heap := h', toks := tk } := I1.kept kk
    have sub : ∀ r ∈ L, r ∈ ks := fun r hr => List.mem_of_mem_take (g.sub r hr)
    have all : ∀ d ∈ ds, ∃ r ∈ L, keyD d = some r.2 := fun d hd => by
      obtain ⟨r, hr, hk⟩ := k4 d hd
      obtain ⟨r', hr', e⟩ := List.mem_map.mp (g.all r (by rw [List.take_length]; exact hr))
      exact ⟨r', hr', by rw [hk, e]⟩
    have hlen : es'.size = (dedE ds).length := by
      obtain ⟨zs, f1, f2, f3⟩ := pick_data L fun r hr => (k3 r (sub r hr)).2
      rw [SetN.len (s := { s1 with heap := h', toks := tk }) R, ← (picked c f2 f3 R.nd all).length_eq, ← each_len f1, List.length_map]
    obtain ⟨o, ho, hex, hda⟩ := R.ob
    have hfew := R.few
    refine call_len_set (s := { s1 with heap := h', toks := tk }) ho hex hda (SetN.fits (s := { s1 with heap := h', toks := tk }) R) (by rw [SetN.len (s := { s1 with heap := h', toks := tk }) R]; omega) ⟨.int es'.size, H1, I2.tok _, ⟨_, rfl⟩, qq H1 _ s2 (.inl (by rw [← Option.some.inj e2, hlen]; exact .int _))⟩
  | _ => cases e2
end
end EV

namespace EV
open PySem PySem.Spec PyProof.Rows
/-! ### list(zip(a, b, c)), three tuples of one length -/
theorem zip_no_len : typeLookup (.type "zip") "__len__" = pure none := by rw [typeLookup_type, builtinLookup_eq_fast]; kernel_rfl
theorem zip_no_hint : typeLookup (.type "zip") "__length_hint__" = pure none := by rw [typeLookup_type, builtinLookup_eq_fast]; kernel_rfl
section
variable {prog : Program} {w : World} {A : Around} {E : Value → Shared → Prop} {s : Shared} {z TI TO i1 i2 i3 : Addr} {fp1 fp2 fp3 : List Addr} {n i : Nat} {P1 P2 P3 : Nat → Value → Prop} {St1 St2 St3 : Nat → Heap → Prop}
theorem zip3_held_item {T : Addr} {f : Bool} {oT : Obj} {Q : Value → Shared → Prop} (S : ZipSep3 z TI TO i1 i2 i3 fp1 fp2 fp3) (D1 : Draws prog w A i1 fp1 n P1 St1) (D2 : Draws prog w A i2 fp2 n P2 St2) (D3 : Draws prog w A i3 fp3 n P3 St3)
    (hz : IsZipHeld s.heap z TI TO T f) (hT : s.heap.get? T = some oT) (hTI : IsTupOf3 s.heap TI (.ref i1) (.ref i2) (.ref i3)) (st1 : St1 i s.heap) (st2 : St2 i s.heap) (st3 : St3 i s.heap) (lt : i < n)
    (hQ : ∀ x1 x2 x3 h' tk, P1 i x1 → P2 i x2 → P3 i x3 → IsZipHeld h' z TI TO T true → St1 (i + 1) h' → St2 (i + 1) h' → St3 (i + 1) h' → IsTupOf3 h' s.heap.objs.size x1 x2 x3 → h'.objs.size = s.heap.objs.size + 1 →
      (∀ c o, c ≠ z → c ≠ i1 → c ≠ i2 → c ≠ i3 → s.heap.get? c = some o → h'.get? c = some o) → Q (.ref s.heap.objs.size) { s with heap := h', toks := tk }) :
    wpAny (model prog w) A (Builtin.«zip.__next__» ⟨[.ref z], []⟩) (fun fin s' => ∃ v, fin = .done (.ret v) ∧ Q v s') E s := by
  obtain ⟨hp, g, d, tk0, os⟩ := s
  refine wpAny_bind (m := field (.ref z) 2) (wpAny_field hz rfl (x := .bool false) rfl ?_)
  refine wpAny_bind (m := field (.ref z) 3) (wpAny_field hz rfl (x := .ref TI) rfl ?_)
  refine wpAny_bind (wpAny_seqItems hTI rfl ?_)
  refine wpAny_bind (m := Builtin.SmallTypes.ownedTupleIsFree (.ref z)) (wpAny_tupleHeld_zip hz hT fun g0 hz0 s0 => ?_)
  replace s0 : Heap.SameBut z hp g0 := s0
  simp only [Bool.false_eq_true, if_false]
  refine wpAny_bind ?_
  rw [← Array.forIn_toList]
  simp only [List.forIn_cons, List.forIn_nil]
  refine wpAny_bind (wpAny_bind (wpAny_holding ?_))
  refine wpAny_bind (m := Builtin.SmallTypes.nextOf (.ref i1)) (D1.item i _ _ _ lt (D1.over st1 s0 S.zf1) fun x1 p1 tk1 y1 t1 s1 => wpAny_pure (wpAny_pure ?_))
  replace s1 : Heap.SameBut i1 g0 p1 := s1
  refine wpAny_bind (wpAny_bind (wpAny_holding ?_))
  refine wpAny_bind (m := Builtin.SmallTypes.nextOf (.ref i2)) (D2.item i ⟨p1, g, d, tk1, os⟩ _ _ lt (D2.over (D2.over st2 s0 S.zf2) s1 S.sep1_2) fun x2 p2 tk2 y2 t2 s2 => wpAny_pure (wpAny_pure ?_))
  replace s2 : Heap.SameBut i2 p1 p2 := s2
  refine wpAny_bind (wpAny_bind (wpAny_holding ?_))
  refine wpAny_bind (m := Builtin.SmallTypes.nextOf (.ref i3)) (D3.item i ⟨p2, g, d, tk2, os⟩ _ _ lt (D3.over (D3.over (D3.over st3 s0 S.zf3) s1 S.sep1_3) s2 S.sep2_3) fun x3 p3 tk3 y3 t3 s3 => wpAny_pure (wpAny_pure (wpAny_pure ?_)))
  replace s3 : Heap.SameBut i3 p2 p3 := s3
  refine wpAny_bind (m := newTuple [x1, x2, x3]) (wpAny_newTuple ?_)
  have hsz : p3.objs.size = hp.objs.size := by rw [s3.1, s2.1, s1.1, s0.1]
  have zz : IsZipHeld p3 z TI TO T true := s3.extBut _ _ S.zi3 (s2.extBut _ _ S.zi2 (s1.extBut _ _ S.zi1 hz0))
  have kk : ∀ c o, c ≠ z → c ≠ i1 → c ≠ i2 → c ≠ i3 → hp.get? c = some o → p3.get? c = some o := fun c o cz c1 c2 c3 e => s3.extBut _ _ c3 (s2.extBut _ _ c2 (s1.extBut _ _ c1 (s0.extBut _ _ cz e)))
  have j1 : St1 (i + 1) p3 := D1.over (D1.over t1 s2 S.sep2_1) s3 S.sep3_1
  have j2 : St2 (i + 1) p3 := D2.over t2 s3 S.sep3_2
  refine wpAny_pure ⟨_, rfl, ?_⟩
  show Q (.ref p3.objs.size) ⟨p3.push { cls := .type "tuple", data := .seq #[x1, x2, x3] }, g, d, tk3, os⟩
  have up : ∀ c o, p3.get? c = some o → (p3.push { cls := .type "tuple", data := .seq #[x1, x2, x3] }).get? c = some o := fun c o e => Heap.get?_push_of_some _ e
  have hT4 : IsTupOf3 (p3.push { cls := .type "tuple", data := .seq #[x1, x2, x3] }) p3.objs.size x1 x2 x3 := Heap.get?_push_size _ rfl
  have hz4 : (p3.push { cls := .type "tuple", data := .seq #[x1, x2, x3] }).objs.size = p3.objs.size + 1 := Heap.size_push ..
  rw [hsz] at hT4 hz4 ⊢
  exact hQ x1 x2 x3 _ tk3 y1 y2 y3 (up _ _ zz) (D1.frame _ _ _ j1 fun b _ o e => up b o e) (D2.frame _ _ _ j2 fun b _ o e => up b o e) (D3.frame _ _ _ t3 fun b _ o e => up b o e) hT4 hz4 fun c o cz c1 c2 c3 e => up c o (kk c o cz c1 c2 c3 e)
theorem zip3_held_end {T : Addr} {f : Bool} {oT : Obj} {Q : Fin → Shared → Prop} (S : ZipSep3 z TI TO i1 i2 i3 fp1 fp2 fp3) (D1 : Draws prog w A i1 fp1 n P1 St1)
    (hz : IsZipHeld s.heap z TI TO T f) (hT : s.heap.get? T = some oT) (hTI : IsTupOf3 s.heap TI (.ref i1) (.ref i2) (.ref i3)) (st1 : St1 n s.heap)
    (hE : ∀ h' e, (∀ c o, c ≠ z → c ≠ i1 → s.heap.get? c = some o → h'.get? c = some o) → (∃ o, h'.get? e = some o ∧ o.cls = .type "StopIteration") → E (.ref e) { s with heap := h' }) :
    wpAny (model prog w) A (Builtin.«zip.__next__» ⟨[.ref z], []⟩) Q E s := by
  obtain ⟨hp, g, d, tk0, os⟩ := s
  refine wpAny_bind (m := field (.ref z) 2) (wpAny_field hz rfl (x := .bool false) rfl ?_)
  refine wpAny_bind (m := field (.ref z) 3) (wpAny_field hz rfl (x := .ref TI) rfl ?_)
  refine wpAny_bind (wpAny_seqItems hTI rfl ?_)
  refine wpAny_bind (m := Builtin.SmallTypes.ownedTupleIsFree (.ref z)) (wpAny_tupleHeld_zip hz hT fun g0 hz0 s0 => ?_)
  replace s0 : Heap.SameBut z hp g0 := s0
  simp only [Bool.false_eq_true, if_false]
  refine wpAny_bind ?_
  rw [← Array.forIn_toList]
  simp only [List.forIn_cons, List.forIn_nil]
  refine wpAny_bind (wpAny_bind (wpAny_holding ?_))
  refine wpAny_bind (m := Builtin.SmallTypes.nextOf (.ref i1)) (D1.done ⟨g0, g, d, tk0, os⟩ _ _ (D1.over st1 s0 S.zf1) fun h' e s1 he => ?_)
  exact hE h' e (fun c o cz c1 q => s1 _ _ c1 (s0.extBut _ _ cz q)) he
theorem pyNext_held_item {T : Addr} {f : Bool} {oT : Obj} {Q : Option Value → Shared → Prop} (S : ZipSep3 z TI TO i1 i2 i3 fp1 fp2 fp3) (D1 : Draws prog w A.in1 i1 fp1 n P1 St1) (D2 : Draws prog w A.in1 i2 fp2 n P2 St2) (D3 : Draws prog w A.in1 i3 fp3 n P3 St3)
    (hz : IsZipHeld s.heap z TI TO T f) (hT : s.heap.get? T = some oT) (hTI : IsTupOf3 s.heap TI (.ref i1) (.ref i2) (.ref i3)) (st1 : St1 i s.heap) (st2 : St2 i s.heap) (st3 : St3 i s.heap) (lt : i < n)
    (hQ : ∀ x1 x2 x3 h' tk, P1 i x1 → P2 i x2 → P3 i x3 → IsZipHeld h' z TI TO T true → St1 (i + 1) h' → St2 (i + 1) h' → St3 (i + 1) h' → IsTupOf3 h' s.heap.objs.size x1 x2 x3 → h'.objs.size = s.heap.objs.size + 1 →
      (∀ c o, c ≠ z → c ≠ i1 → c ≠ i2 → c ≠ i3 → s.heap.get? c = some o → h'.get? c = some o) → Q (some (.ref s.heap.objs.size)) { s with heap := h', toks := tk }) : wpAny (model prog w) A (pyNext (.ref z)) Q E s := by
  have ty : s.TypeIs (.ref z) "zip" := ⟨_, hz, rfl⟩
  unfold pyNext
  exact wpAny_bind (wpAny_attempt (wpAny_callSpecial?_slot (name := Str.ofString "__next__") ty F.slot_zip_next (wpAny_call_entry F.slot_zip_next ty F.entry_zip_next
    (zip3_held_item S D1 D2 D3 hz hT hTI st1 st2 st3 lt fun x1 x2 x3 h' tk y1 y2 y3 b1 d1 d2 d3 b5 b6 b7 => wpAny_pure (hQ x1 x2 x3 h' tk y1 y2 y3 b1 d1 d2 d3 b5 b6 b7)) (F.args_zip_next_1 _))))
theorem pyNext_held_end {T : Addr} {f : Bool} {oT : Obj} {Q : Option Value → Shared → Prop} (S : ZipSep3 z TI TO i1 i2 i3 fp1 fp2 fp3) (D1 : Draws prog w A.in1 i1 fp1 n P1 St1)
    (hz : IsZipHeld s.heap z TI TO T f) (hT : s.heap.get? T = some oT) (hTI : IsTupOf3 s.heap TI (.ref i1) (.ref i2) (.ref i3)) (st1 : St1 n s.heap)
    (hQ : ∀ h', (∀ c o, c ≠ z → c ≠ i1 → s.heap.get? c = some o → h'.get? c = some o) → Q none { s with heap := h' }) : wpAny (model prog w) A (pyNext (.ref z)) Q E s := by
  have ty : s.TypeIs (.ref z) "zip" := ⟨_, hz, rfl⟩
  unfold pyNext
  refine wpAny_bind (wpAny_attempt (wpAny_callSpecial?_slot (name := Str.ofString "__next__") ty F.slot_zip_next (wpAny_call_entry F.slot_zip_next ty F.entry_zip_next (zip3_held_end S D1 hz hT hTI st1 fun h' e kk he => ?_) (F.args_zip_next_1 _))))
  obtain ⟨o, ho, hc⟩ := he
  exact wpAny_bind (wpAny_isInstance (T := "StopIteration") (b := true) ⟨o, ho, hc⟩ isSubtype_stop (wpAny_pure (hQ _ kk)))
end
/-- where the tuples lie that were given out -/
structure Acc3 (h : Heap) (N0 : Nat) (P1 P2 P3 : Nat → Value → Prop) (bad : List Addr) (acc : Array Value) (i : Nat) : Prop where
  size : acc.size = i
  at_ : ∀ (j : Nat) v, acc[j]? = some v → ∃ T x1 x2 x3, v = .ref T ∧ P1 j x1 ∧ P2 j x2 ∧ P3 j x3 ∧ IsTupOf3 h T x1 x2 x3 ∧ T ∉ bad ∧ N0 ≤ T
  nd : acc.toList.Nodup
theorem Acc3.keep {h h' : Heap} {N0 : Nat} {P1 P2 P3 : Nat → Value → Prop} {bad : List Addr} {acc : Array Value} {i : Nat} (x : Acc3 h N0 P1 P2 P3 bad acc i) (k : ∀ c o, c ∉ bad → h.get? c = some o → h'.get? c = some o) : Acc3 h' N0 P1 P2 P3 bad acc i :=
  ⟨x.1, fun j v e => let ⟨T, x1, x2, x3, e1, p1, p2, p3, t, nb, l⟩ := x.2 j v e; ⟨T, x1, x2, x3, e1, p1, p2, p3, k _ _ nb t, nb, l⟩, x.3⟩
theorem Acc3.push {h h' : Heap} {N0 : Nat} {P1 P2 P3 : Nat → Value → Prop} {bad : List Addr} {acc : Array Value} {i : Nat} {x1 x2 x3 : Value} (x : Acc3 h N0 P1 P2 P3 bad acc i) (k : ∀ c o, c ∉ bad → h.get? c = some o → h'.get? c = some o) (p1 : P1 i x1) (p2 : P2 i x2) (p3 : P3 i x3)
    (t : IsTupOf3 h' h.objs.size x1 x2 x3) (nb : h.objs.size ∉ bad) (l : N0 ≤ h.objs.size) : Acc3 h' N0 P1 P2 P3 bad (acc.push (.ref h.objs.size)) (i + 1) := by
  refine ⟨by rw [Array.size_push, x.1], fun j v e => ?_, ?_⟩
  · rw [Array.getElem?_push] at e
    split at e
    · rename_i ej
      rw [x.1] at ej
      cases e
      subst ej
      exact ⟨_, x1, x2, x3, rfl, p1, p2, p3, t, nb, l⟩
    · exact (x.keep k).2 j v e
  · rw [Array.toList_push]
    refine List.nodup_append.mpr ⟨x.3, by simp, fun v hv u hu e => ?_⟩
    rw [List.mem_singleton.mp hu] at e
    subst e
    obtain ⟨j, hj, ej⟩ := List.getElem_of_mem hv
    obtain ⟨T, y1, y2, y3, e1, _, _, _, tt, _⟩ := x.2 j (.ref h.objs.size) (by rw [← Array.getElem?_toList, List.getElem?_eq_getElem hj, ej])
    cases e1
    exact Nat.lt_irrefl _ (Heap.lt_size tt)
section
variable {prog : Program} {w : World} {A : Around} {R : Result → Shared → Prop} {z TI TO i1 i2 i3 : Addr} {fp1 fp2 fp3 : List Addr} {n : Nat} {P1 P2 P3 : Nat → Value → Prop} {St1 St2 St3 : Nat → Heap → Prop}
def Zat (h : Heap) (z TI TO : Addr) (bad : List Addr) : Prop := (∃ a1 a2 a3, IsTupOf3 h TO a1 a2 a3) ∧ (IsZip h z TI TO .none ∨ ∃ T f oT, IsZipHeld h z TI TO T f ∧ h.get? T = some oT ∧ T ∉ bad)
theorem ext3_loop (Sp : ZipSep3 z TI TO i1 i2 i3 fp1 fp2 fp3) (D1 : Draws prog w A.in1.in1 i1 fp1 n P1 St1) (D2 : Draws prog w A.in1.in1 i2 fp2 n P2 St2) (D3 : Draws prog w A.in1.in1 i3 fp3 n P3 St3) (hn : n ≤ sizeLine) (S : Addr) (nz : S ≠ z) (nTI : S ≠ TI) (nTO : S ≠ TO) (n1 : S ∉ fp1) (n2 : S ∉ fp2) (n3 : S ∉ fp3)
    (res : Value) (k0 : Heap) (up : ∀ b ∈ [z, TO, i1, i2, i3, S], k0.objs.size ≤ b) (sh : Shared) :
    ∀ (k i : Nat) (h : Heap) (tk : Nat) (acc : Array Value) (c : Nat), n - i = k → i ≤ n → Zat h z TI TO [z, TO, i1, i2, i3, S] → IsTupOf3 h TI (.ref i1) (.ref i2) (.ref i3) → St1 i h → St2 i h → St3 i h → h.get? S = some { cls := .type "list", dict := none, data := .seq acc c, slots := #[] } →
      Acc3 h k0.objs.size P1 P2 P3 [z, TO, i1, i2, i3, S] acc i → (∀ b o, k0.get? b = some o → h.get? b = some o) →
      (∀ h' tk' acc' c', h'.get? S = some { cls := .type "list", dict := none, data := .seq acc' c', slots := #[] } → Acc3 h' k0.objs.size P1 P2 P3 [z, TO, i1, i2, i3, S] acc' n → (∀ b o, k0.get? b = some o → h'.get? b = some o) → R (.ok (.ret res)) { sh with heap := h', toks := tk' }) →
      codeAny (model prog w) A (.builtin "list.extend.loop" ⟨[.ref S, .ref z, res], []⟩) R { sh with heap := h, toks := tk } := by
  have m1 : S ≠ i1 := fun e => n1 (e ▸ Sp.mem1)
  have m2 : S ≠ i2 := fun e => n2 (e ▸ Sp.mem2)
  have m3 : S ≠ i3 := fun e => n3 (e ▸ Sp.mem3)
  have old : ∀ {b o}, k0.get? b = some o → b ∉ [z, TO, i1, i2, i3, S] := fun {b o} e hb => Nat.lt_irrefl _ (Nat.lt_of_lt_of_le (Heap.lt_size e) (up b hb))
  have nb : ∀ {c : Addr}, c ∉ [z, TO, i1, i2, i3, S] → c ≠ z ∧ c ≠ TO ∧ c ≠ i1 ∧ c ≠ i2 ∧ c ≠ i3 ∧ c ≠ S := fun {c} h => by simpa using h
  have TIb : TI ∉ [z, TO, i1, i2, i3, S] := by
    simp only [List.mem_cons, List.not_mem_nil, or_false, not_or]
    exact ⟨Sp.TIz, Sp.TITO, Sp.TIi1, Sp.TIi2, Sp.TIi3, fun e => nTI e.symm⟩
  intro k
  induction k with
  | zero =>
    intro i h tk acc c hk hi hZ hTI st1 st2 st3 hS ha kp hR
    obtain rfl : i = n := by omega
    refine codeAny_builtin F.entry_extend_loop ?_
    rw [Around.under_plainId F.plain_extend_loop _]
    obtain ⟨⟨a1, a2, a3, hTO⟩, hz | ⟨T, f, oT, hz, hT, _⟩⟩ := hZ
    · refine wpAny_bind (m := pyNext (.ref z)) (wpAny_pyNext_zipD3_end (s := { sh with heap := h, toks := tk }) Sp D1 D2 D3 hz hTI hTO st1 st2 st3 (Nat.le_refl _) (Nat.le_refl _) (Nat.le_refl _) (.inl rfl) fun h' tk' kk => ?_)
      have kk2 : ∀ c o, c ∉ [z, TO, i1, i2, i3, S] → h.get? c = some o → h'.get? c = some o := fun c o hc e => let ⟨q1, q2, q3, q4, q5, _⟩ := nb hc; kk c o q1 q2 q3 q4 q5 e
      exact wpAny_pure (hR h' tk' acc c (kk _ _ nz nTO m1 m2 m3 hS) (ha.keep kk2) fun b o e => kk2 b o (old e) (kp b o e))
    · refine wpAny_bind (m := pyNext (.ref z)) (pyNext_held_end (s := { sh with heap := h, toks := tk }) Sp D1 hz hT hTI st1 fun h' kk => ?_)
      have kk2 : ∀ c o, c ∉ [z, TO, i1, i2, i3, S] → h.get? c = some o → h'.get? c = some o := fun c o hc e => let ⟨q1, _, q3, _⟩ := nb hc; kk c o q1 q3 e
      exact wpAny_pure (hR h' tk acc c (kk _ _ nz m1 hS) (ha.keep kk2) fun b o e => kk2 b o (old e) (kp b o e))
  | succ k ih =>
    intro i h tk acc c hk hi hZ hTI st1 st2 st3 hS ha kp hR
    have lt : i < n := by omega
    refine codeAny_builtin F.entry_extend_loop ?_
    rw [Around.under_plainId F.plain_extend_loop _]
    obtain ⟨⟨a1, a2, a3, hTO⟩, hZ⟩ := hZ
    have Nb : h.objs.size ∉ [z, TO, i1, i2, i3, S] := by
      obtain ⟨o1, g1⟩ := D1.live _ _ st1
      obtain ⟨o2, g2⟩ := D2.live _ _ st2
      obtain ⟨o3, g3⟩ := D3.live _ _ st3
      obtain ⟨oz, gz⟩ : ∃ o, h.get? z = some o := by rcases hZ with q | ⟨_, _, _, q, _⟩ <;> exact ⟨_, q⟩
      simp only [List.mem_cons, List.not_mem_nil, or_false, not_or]
      exact ⟨Nat.ne_of_gt (Heap.lt_size gz), Nat.ne_of_gt (Heap.lt_size hTO), Nat.ne_of_gt (Heap.lt_size g1), Nat.ne_of_gt (Heap.lt_size g2), Nat.ne_of_gt (Heap.lt_size g3), Nat.ne_of_gt (Heap.lt_size hS)⟩
    have Nl : k0.objs.size ≤ h.objs.size := Nat.le_trans (up S (by simp)) (Nat.le_of_lt (Heap.lt_size hS))
    have next : ∀ (h' : Heap) (tk' : Nat) (x1 x2 x3 b1 b2 b3 : Value) (f : Bool) (T : Addr) (oT : Obj), P1 i x1 → P2 i x2 → P3 i x3 → IsZipHeld h' z TI TO T f → IsTupOf3 h' TO b1 b2 b3 → h'.get? T = some oT → T ∉ [z, TO, i1, i2, i3, S] → St1 (i + 1) h' → St2 (i + 1) h' → St3 (i + 1) h' → IsTupOf3 h' h.objs.size x1 x2 x3 →
        (∀ c o, c ∉ [z, TO, i1, i2, i3, S] → h.get? c = some o → h'.get? c = some o) → h'.get? S = some { cls := .type "list", dict := none, data := .seq acc c, slots := #[] } →
        wpAny (model prog w) A.in1 (updateSeq S (·.push (.ref h.objs.size)) >>= fun _ => again (.builtin "list.extend.loop" ⟨[.ref S, .ref z, res], []⟩)) (fun fin s' => match fin with | .done f => R (.ok f) s' | .again c' => c'.quiet = true ∧ codeAny (model prog w) A c' R s') (fun e s' => R (.error e) s') { sh with heap := h', toks := tk' } := fun h' tk' x1 x2 x3 b1 b2 b3 f T oT p1 p2 p3 hz' hTO' hT' Tb t1 t2 t3 hN kk hS' => by
      refine wpAny_bind (wpAny_updateSeq hS' rfl (wpAny_pure ⟨plainId_quiet F.plain_extend_loop _, ?_⟩) (by rw [ha.1]; omega) (by show (acc.push _).size ≤ sizeLine + 1; rw [Array.size_push, ha.1]; omega))
      have ot : ∀ c o, c ≠ S → h'.get? c = some o → (h'.update S (Obj.mapSeq (·.push (.ref h.objs.size)))).get? c = some o := fun c o q e => (Heap.get?_update_other _ _ (fun z => q z.symm)).trans e
      have ne : ∀ {c : Addr}, c ∉ [z, TO, i1, i2, i3, S] → c ≠ S := fun q => (nb q).2.2.2.2.2
      refine ih (i + 1) _ tk' (acc.push (.ref h.objs.size)) _ (by omega) lt ⟨⟨b1, b2, b3, ot _ _ (fun e => nTO e.symm) hTO'⟩, .inr ⟨T, f, oT, ot _ _ (fun e => nz e.symm) hz', ot _ _ (ne Tb) hT', Tb⟩⟩ (ot _ _ (fun e => nTI e.symm) (kk _ _ TIb hTI))
        (D1.frame _ _ _ t1 fun b hb o e => ot b o (fun q => n1 (q ▸ hb)) e) (D2.frame _ _ _ t2 fun b hb o e => ot b o (fun q => n2 (q ▸ hb)) e) (D3.frame _ _ _ t3 fun b hb o e => ot b o (fun q => n3 (q ▸ hb)) e) (Heap.get?_update_self _ hS' rfl) ?_ (fun b o e => ot b o (ne (old e)) (kk b o (old e) (kp b o e))) hR
      exact (ha.push kk p1 p2 p3 hN Nb Nl).keep fun c o q e => ot c o (ne q) e
    rcases hZ with hz | ⟨T, f, oT, hz, hT, Tb⟩
    · exact wpAny_bind (m := pyNext (.ref z)) (wpAny_pyNext_zipD3_item (s := { sh with heap := h, toks := tk }) Sp D1 D2 D3 hz hTI hTO st1 st2 st3 lt lt lt fun x1 x2 x3 h' tk' y1 y2 y3 g1 g2 d1 d2 d3 g5 _ kk =>
        next h' tk' x1 x2 x3 x1 x2 x3 false h.objs.size _ y1 y2 y3 g1 g2 g5 Nb d1 d2 d3 g5 (fun c o hc e => let ⟨q1, q2, q3, q4, q5, _⟩ := nb hc; kk c o q1 q2 q3 q4 q5 e) (kk _ _ nz nTO m1 m2 m3 hS))
    · have nT := nb Tb
      exact wpAny_bind (m := pyNext (.ref z)) (pyNext_held_item (s := { sh with heap := h, toks := tk }) Sp D1 D2 D3 hz hT hTI st1 st2 st3 lt fun x1 x2 x3 h' tk' y1 y2 y3 g1 d1 d2 d3 g5 _ kk =>
        next h' tk' x1 x2 x3 a1 a2 a3 true T oT y1 y2 y3 g1 (kk _ _ Sp.TOz Sp.Ti1 Sp.Ti2 Sp.Ti3 hTO) (kk _ _ nT.1 nT.2.2.1 nT.2.2.2.1 nT.2.2.2.2.1 hT) Tb d1 d2 d3 g5 (fun c o hc e => let ⟨q1, _, q3, q4, q5, _⟩ := nb hc; kk c o q1 q3 q4 q5 e) (kk _ _ nz m1 m2 m3 hS))
end
section
variable {prog : Program} {w : World} {A : Around} {E : Value → Shared → Prop} {s : Shared}
/-- list(zip(t1, t2, t3)): a list of new tuples -/
theorem list_zip3 {t1 t2 t3 : Addr} {xs ys zs : Array Value} {Q : Value → Shared → Prop} (hh : A.handled = none) (h1 : s.heap.IsTuple t1 xs) (h2 : s.heap.IsTuple t2 ys) (h3 : s.heap.IsTuple t3 zs) (e2 : ys.size = xs.size) (e3 : zs.size = xs.size) (hn : xs.size ≤ sizeLine)
    (q : ∀ h' tk acc c bad, h'.get? (s.heap.objs.size + 6) = some { cls := .type "list", dict := none, data := .seq acc c, slots := #[] } → Acc3 h' s.heap.objs.size (fun j v => xs[j]? = some v) (fun j v => ys[j]? = some v) (fun j v => zs[j]? = some v) bad acc xs.size → s.heap.objs.size + 6 ∈ bad →
      (∀ b o, s.heap.get? b = some o → h'.get? b = some o) → Q (.ref (s.heap.objs.size + 6)) { s with heap := h', toks := tk }) :
    wpAny (model prog w) A (call (.type "zip") [.ref t1, .ref t2, .ref t3]) (fun u s' => wpAny (model prog w) A (call (.type "list") [u]) Q E s') E s := by
  obtain ⟨o1, g1, _⟩ := id h1
  obtain ⟨o2, g2, _⟩ := id h2
  obtain ⟨o3, g3, _⟩ := id h3
  have l1 : t1 < s.heap.objs.size := Heap.lt_size g1
  have l2 : t2 < s.heap.objs.size := Heap.lt_size g2
  have l3 : t3 < s.heap.objs.size := Heap.lt_size g3
  refine zip_begins3 (begins_tuple t1 xs) (begins_tuple t2 ys) (begins_tuple t3 zs) h1 h2 h3 fun h' hz hTI hTO a1 a2 a3 hs kk => ?_
  obtain ⟨hp, g, d, tk0, os⟩ := s
  have hs : h'.objs.size = hp.objs.size + 6 := hs
  generalize hN : hp.objs.size = N at *
  have Sp : ZipSep3 (N + 5) (N + 3) (N + 4) N (N + 1) (N + 2) [N, t1] [N + 1, t2] [N + 2, t3] := zip_sep3 (fp1 := [t1]) (fp2 := [t2]) (fp3 := [t3]) (by simpa using l1) (by simpa using l2) (by simpa using l3)
  have ne : ∀ {t : Addr} {k : Nat}, t < N → t ≠ N + k := fun {t k} h => Nat.ne_of_lt (Nat.lt_of_lt_of_le h (Nat.le_add_right _ _))
  have hz6 : ∀ {t : Addr} {k : Nat}, t < N → t ≠ N + k := ne
  have out : ∀ {t : Addr} {k : Nat}, t < N → ∀ j, N + 6 ∉ [N + j, t] ∨ j = 6 := fun {t k} h j => by
    by_cases hj : j = 6
    · exact .inr hj
    · refine .inl fun m => ?_
      rcases List.mem_cons.mp m with e | m
      · have e' : (N : Nat) + 6 = N + j := e
        omega
      · exact (ne (k := 6) h).symm (List.mem_singleton.mp m)
  have p1 : N + 6 ∉ [N, t1] := (out (k := 0) l1 0).resolve_right (by decide)
  have p2 : N + 6 ∉ [N + 1, t2] := (out (k := 0) l2 1).resolve_right (by decide)
  have p3 : N + 6 ∉ [N + 2, t3] := (out (k := 0) l3 2).resolve_right (by decide)
  have neA : ∀ j : Nat, j < 6 → N + 6 ≠ N + j := fun j hj e => by
    have e' : (N : Nat) + 6 = N + j := e
    omega
  have push0 : ∀ b o, h'.get? b = some o → (h'.push { cls := .type "list", data := .seq #[] }).get? b = some o := fun b o e => Heap.get?_push_of_some _ e
  have hS : (h'.push { cls := .type "list", data := .seq #[] }).get? (N + 6) = some { cls := .type "list", data := .seq #[] } := by rw [← hs]; exact Heap.get?_push_size _ rfl
  refine callType_codes (Q₁ := fun ob s₁ => ob = .ref (N + 6) ∧ s₁ = ⟨h'.push { cls := .type "list", data := .seq #[] }, g, d, tk0, os⟩) F.called_list (F.typeCall_list_1 _) F.entry_list_init (code_list_new _ (by show _ ∧ _; exact ⟨by rw [← hs], rfl⟩)) fun ob s₁ h₁ => ?_
  obtain ⟨rfl, rfl⟩ := h₁
  refine ⟨⟨_, hS, rfl⟩, F.args_list_init_2 _ _, ?_⟩
  show wpAny _ A.in1.in1 (do let old ← Builtin.List.listItems (.ref (N + 6)); Builtin.List.listUpdate (.ref (N + 6)) (fun _ => #[]); letGo old.toList.reverse; Builtin.List.listExtendWith (.ref (N + 6)) (.ref (N + 5)) .none) _ _ _
  refine wpAny_bind ?_
  unfold Builtin.List.listItems
  refine wpAny_bind (wpAny_seqItems hS rfl (wpAny_pure ?_))
  refine wpAny_bind (m := updateSeq (N + 6) (fun _ => #[])) (wpAny_updateSeq hS rfl ?_)
  have hS2 := Heap.get?_update_self (Obj.mapSeq (fun _ => (#[] : Array Value))) hS rfl
  refine wpAny_bind (m := letGo (#[] : Array Value).toList.reverse) (wpAny_letGo ?_)
  have ot2 : ∀ b o, b ≠ N + 6 → h'.get? b = some o → ((h'.push { cls := .type "list", data := .seq #[] }).update (N + 6) (Obj.mapSeq (fun _ => (#[] : Array Value)))).get? b = some o := fun b o q e => (Heap.get?_update_other _ _ (Ne.symm q)).trans (push0 b o e)
  generalize (h'.push { cls := .type "list", data := .seq #[] }).update (N + 6) (Obj.mapSeq (fun _ => (#[] : Array Value))) = hb at hS2 ot2
  have hz2 : IsZip hb (N + 5) (N + 3) (N + 4) .none := ot2 _ _ (neA 5 (by decide)).symm hz
  have ty : (⟨hb, g, d, tk0, os⟩ : Shared).TypeIs (.ref (N + 5)) "zip" := ⟨_, hz2, rfl⟩
  unfold Builtin.List.listExtendWith
  refine wpAny_bind (wpAny_typeOf ty ?_)
  have f1 : Builtin.List.listSameRef (.ref (N + 6)) (.ref (N + 5)) = false := by
    have := neA 5 (by decide)
    simp [Builtin.List.listSameRef, this]
  have f2 : (Value.type "zip" == Value.type "list") = false := by decide
  have f3 : (Value.type "zip" == Value.type "tuple") = false := by decide
  simp only [f1, f2, f3, Bool.or_false, Bool.false_eq_true, if_false]
  refine wpAny_bind (wpAny_pyIter_zip hz2 (wpAny_bind (wpAny_holding ?_)))
  unfold Builtin.List.listLengthHint
  refine wpAny_bind (wpAny_specialOf ty zip_no_len ?_)
  refine wpAny_bind (m := specialOf (Value.ref (N + 5)) (Str.ofString "__length_hint__")) (wpAny_specialOf ty zip_no_hint (wpAny_pure ?_))
  show wpAny _ A.in1.in1 (rule "list.extend.makes-room" >>= fun _ => Builtin.List.listTouch (.ref (N + 6)) >>= fun _ => again (.builtin "list.extend.loop" ⟨[.ref (N + 6), .ref (N + 5), .none], []⟩)) _ _ _
  refine wpAny_bind (wpAny_rule (wpAny_bind ?_))
  show wpAny _ A.in1.in1 (updateSeq (N + 6) (·.push .none) >>= fun _ => updateSeq (N + 6) (·.pop)) _ _ _
  refine wpAny_bind (wpAny_updateSeq hS2 rfl ?_)
  have hS3 := Heap.get?_update_self (Obj.mapSeq (·.push Value.none)) hS2 rfl
  refine wpAny_updateSeq (hz := by seq_fits) hS3 rfl ?_
  have hS4 := Heap.get?_update_self (Obj.mapSeq (·.pop)) hS3 rfl
  have ot4 : ∀ b o, b ≠ N + 6 → h'.get? b = some o → ((hb.update (N + 6) (Obj.mapSeq (·.push Value.none))).update (N + 6) (Obj.mapSeq (·.pop))).get? b = some o := fun b o q e => (Heap.get?_update_other _ _ (Ne.symm q)).trans ((Heap.get?_update_other _ _ (Ne.symm q)).trans (ot2 b o q e))
  generalize (hb.update (N + 6) (Obj.mapSeq (·.push Value.none))).update (N + 6) (Obj.mapSeq (·.pop)) = h4 at hS4 ot4
  have old : ∀ b o, hp.get? b = some o → b ≠ N + 6 := fun b o e => by
    have := Heap.lt_size e
    rw [hN] at this
    exact Nat.ne_of_lt (Nat.lt_of_lt_of_le this (Nat.le_add_right _ _))
  have tup4 : ∀ {t : Addr} {vs : Array Value}, hp.IsTuple t vs → h4.IsTuple t vs := fun ⟨o, ho, r⟩ => ⟨o, ot4 _ _ (old _ _ ho) (kk _ _ ho), r⟩
  have hB : A.in1.in1.in1.handled = none := by simp [hh]
  have D2 : Draws prog w A.in1.in1.in1 (N + 1) [N + 1, t2] xs.size (fun i v => ys[i]? = some v) (fun i h => h.IsTupleIter (N + 1) t2 i ∧ h.IsTuple t2 ys) := by rw [← e2]; exact Draws.tuple hB (N + 1) t2 (ne l2) ys
  have D3 : Draws prog w A.in1.in1.in1 (N + 2) [N + 2, t3] xs.size (fun i v => zs[i]? = some v) (fun i h => h.IsTupleIter (N + 2) t3 i ∧ h.IsTuple t3 zs) := by rw [← e3]; exact Draws.tuple hB (N + 2) t3 (ne l3) zs
  refine wpAny_pure ⟨plainId_quiet F.plain_extend_loop _, ext3_loop (A := A.in1) Sp (Draws.tuple hB N t1 (ne (k := 0) l1) xs) D2 D3 hn (N + 6) (neA 5 (by decide)) (neA 3 (by decide)) (neA 4 (by decide)) p1 p2 p3 .none hp
    (fun b hb => ?_) ⟨h4, g, d, tk0, os⟩ xs.size 0 h4 tk0 _ _ rfl (Nat.zero_le _) ⟨⟨_, _, _, ot4 _ _ (neA 4 (by decide)).symm hTO⟩, .inl (ot4 _ _ (neA 5 (by decide)).symm hz)⟩ (ot4 _ _ (neA 3 (by decide)).symm hTI) ⟨⟨_, ot4 _ _ (neA 0 (by decide)).symm a1, rfl, ?_⟩, tup4 h1⟩ ⟨⟨_, ot4 _ _ (neA 1 (by decide)).symm a2, rfl, ?_⟩, tup4 h2⟩ ⟨⟨_, ot4 _ _ (neA 2 (by decide)).symm a3, rfl, ?_⟩, tup4 h3⟩ hS4
    ⟨rfl, fun j v e => by simp at e, by simp⟩ (fun b o e => ot4 _ _ (old _ _ e) (kk _ _ e)) fun h5 tk5 acc c hS5 ha k5 => ⟨rfl, ?_⟩⟩
  · rw [hN]
    have hb : b = N + 5 ∨ b = N + 4 ∨ b = N ∨ b = N + 1 ∨ b = N + 2 ∨ b = N + 6 := by simpa using hb
    rcases hb with rfl | rfl | rfl | rfl | rfl | rfl <;> first | exact Nat.le_refl _ | exact Nat.le_add_right _ _
  · rfl
  · rfl
  · rfl
  · exact q h5 tk5 acc c _ hS5 (by rw [← hN]; exact ha) (by simp) k5
end
end EV

namespace EV
open PySem PySem.Spec PyProof.Rows L2
/-! ### many objects laid at once -/
def addM (H : Hp) (M : Addr → Option HO) : Hp := fun b => match M b with
  | some o => some o
  | none => H b
theorem addM_new {H : Hp} {M : Addr → Option HO} {b : Addr} {o : HO} (h : M b = some o) : addM H M b = some o := by unfold addM; rw [h]
theorem addM_old {H : Hp} {M : Addr → Option HO} {b : Addr} (h : M b = none) : addM H M b = H b := by unfold addM; rw [h]
theorem addM_same {H : Hp} {M : Addr → Option HO} (h : ∀ b o, M b = some o → H b = none) : Same H (addM H M) := fun b u e => by
  cases hm : M b with
  | none => rw [addM_old hm]; exact e
  | some o => rw [h b o hm] at e; cases e
section
variable {X : Cx}
theorem laidM {pins : List (Addr × Obj)} {σ : L2.St} {H : Hp} {s : Shared} {h' : Heap} {tk : Nat} {M : Addr → Option HO} (I : Inv X pins σ H s) (k : ∀ b o, s.heap.get? b = some o → h'.get? b = some o) (hM : ∀ b o, M b = some o → s.heap.objs.size ≤ b ∧ ObjOk X.prog X.w (addM H M) h' b o) :
    Inv X pins σ (addM H M) { s with heap := h', toks := tk } := by
  have fr : ∀ b o, M b = some o → H b = none := fun b o e => I.hok.fresh (hM b o e).1
  have sm := addM_same fr
  have no : ∀ b o, s.heap.get? b = some o → M b = none := fun b o e => by
    cases hm : M b with
    | none => rfl
    | some u => exact absurd (Nat.lt_of_lt_of_le (Heap.lt_size e) (hM b u hm).1) (Nat.lt_irrefl _)
  have U : Un X.fs [] H (addM H M) s.heap h' :=
    { keep := fun b o q _ _ _ => k b o q
      slot := fun b o q _ _ _ => ⟨o.slots, k b o q⟩
      free := fun b o q n _ => by rw [addM_old (no b o q)]; exact n
      there := fun b o q _ => ⟨o, k b o q⟩
      tups := fun b xs q => sm b _ q
      frzs := fun b o v q => sm b _ q
      tbls := fun b ps q => ⟨#[], by rw [sm b _ q]; simp⟩ }
  refine I.un (t' := tk) U fun b o q => ?_
  cases hm : M b with
  | some u =>
    rw [addM_new hm] at q
    cases q
    exact (hM b _ hm).2
  | none =>
    rw [addM_old hm] at q
    exact (I.hok b o q).stay (fun c v _ z => k c v z) (fun c hc => sm _ _ hc) (fun c xs hc => sm _ _ hc)
end
/-! ### list(zip(a, b, c)) -/
section
variable {K : PySem.W.Frag} {w : World} {O : Addr → Prop} {H : Hp} {h : Heap} {bad : List Addr} {N0 : Nat}
/-- a tuple given out: its place, what it holds -/
def Row3 (h : Heap) (N0 : Nat) (bad : List Addr) (r : Addr × List V) : Prop := N0 ≤ r.1 ∧ r.1 ∉ bad ∧ ∃ x1 x2 x3 v1 v2 v3, r.2 = [v1, v2, v3] ∧ RelV v1 x1 ∧ RelV v2 x2 ∧ RelV v3 x3 ∧ IsTupOf3 h r.1 x1 x2 x3
theorem rows3 : ∀ (acc : List Value) {vs1 vs2 vs3 : List V} {us1 us2 us3 : List Value} {d1 d2 d3 : List D}, Vals vs1 us1 → Vals vs2 us2 → Vals vs3 us3 → RoAll K w O H vs1 d1 → RoAll K w O H vs2 d2 → RoAll K w O H vs3 d3 →
    acc.length = us1.length → us2.length = us1.length → us3.length = us1.length →
    (∀ (j : Nat) v, acc[j]? = some v → ∃ T x1 x2 x3, v = .ref T ∧ us1[j]? = some x1 ∧ us2[j]? = some x2 ∧ us3[j]? = some x3 ∧ IsTupOf3 h T x1 x2 x3 ∧ T ∉ bad ∧ N0 ≤ T) →
    ∃ rows : List (Addr × List V), acc = rows.map (fun r => Value.ref r.1) ∧ (∀ r ∈ rows, Row3 h N0 bad r) ∧ ∀ H', Same H H' → (∀ r ∈ rows, H' r.1 = some (.tup r.2)) → RoAll K w O H' (rows.map fun r => V.ref r.1) (zip3T d1 d2 d3)
  | [], vs1, vs2, vs3, us1, us2, us3, d1, d2, d3, r1, r2, r3, a1, a2, a3, l1, l2, l3, hx => by
    cases r1 with
    | nil =>
      cases a1
      exact ⟨[], rfl, nofun, fun _ _ _ => .nil⟩
    | cons _ _ => simp at l1
  | v :: acc, vs1, vs2, vs3, us1, us2, us3, d1, d2, d3, r1, r2, r3, a1, a2, a3, l1, l2, l3, hx => by
    cases r1 with
    | nil => simp at l1
    | @cons v1 u1 vs1 us1 q1 r1 =>
      cases r2 with
      | nil => simp at l2
      | @cons v2 u2 vs2 us2 q2 r2 =>
        cases r3 with
        | nil => simp at l3
        | @cons v3 u3 vs3 us3 q3 r3 =>
          cases a1 with
          | cons b1 a1 =>
            cases a2 with
            | cons b2 a2 =>
              cases a3 with
              | cons b3 a3 =>
                obtain ⟨T, x1, x2, x3, rfl, e1, e2, e3, ht, nb, hN⟩ := hx 0 v rfl
                simp only [List.getElem?_cons_zero, Option.some.injEq] at e1 e2 e3
                subst e1 e2 e3
                obtain ⟨rows, g1, g2, g3⟩ := rows3 acc r1 r2 r3 a1 a2 a3 (by simpa using l1) (by simpa using l2) (by simpa using l3) fun j v e => by
                  have := hx (j + 1) v (by simpa using e)
                  simpa using this
                refine ⟨(T, [v1, v2, v3]) :: rows, by rw [g1]; rfl, fun r hr => ?_, fun H' sm hH => ?_⟩
                · rcases List.mem_cons.mp hr with rfl | hr
                  · exact ⟨hN, nb, _, _, _, v1, v2, v3, rfl, q1, q2, q3, ht⟩
                  · exact g2 r hr
                · exact .cons (.tup (.inl (.inl (hH _ List.mem_cons_self))) (.cons (b1.same sm) (.cons (b2.same sm) (.cons (b3.same sm) .nil)))) (g3 H' sm fun r hr => hH r (List.mem_cons_of_mem _ hr))
end
theorem lookup_memA {α : Type} : ∀ {rows : List (Addr × α)} {b : Addr} {x : α}, rows.lookup b = some x → (b, x) ∈ rows
  | (c, y) :: rows, b, x, e => by
    rw [List.lookup_cons] at e
    by_cases h : b = c
    · subst h
      simp at e
      rw [e]; exact List.mem_cons_self
    · rw [show (b == c) = false from beq_eq_false_iff_ne.mpr h] at e
      exact List.mem_cons_of_mem _ (lookup_memA e)
theorem vals_rows : ∀ rows : List (Addr × List V), Vals (rows.map fun r => V.ref r.1) (rows.map fun r => Value.ref r.1)
  | [] => .nil
  | _ :: rows => .cons rfl (vals_rows rows)
theorem zip3_len : ∀ {xs ys zs : List D}, ys.length = xs.length → zs.length = xs.length → (zip3T xs ys zs).length = xs.length
  | [], _, _, _, _ => by simp [zip3T]
  | x :: xs, [], _, h, _ => by simp at h
  | x :: xs, y :: ys, [], _, h => by simp at h
  | x :: xs, y :: ys, z :: zs, h1, h2 => by simp [zip3T, zip3_len (xs := xs) (ys := ys) (zs := zs) (by simpa using h1) (by simpa using h2)]
theorem lookup_row {rows : List (Addr × List V)} (n : (rows.map (·.1)).Nodup) : ∀ r ∈ rows, rows.lookup r.1 = some r.2 := by
  induction rows with
  | nil => nofun
  | cons a rows ih =>
    intro r hr
    obtain ⟨b, x⟩ := a
    simp only [List.map_cons, List.nodup_cons] at n
    rcases List.mem_cons.mp hr with rfl | hr
    · simp [List.lookup_cons]
    · have hne : r.1 ≠ b := fun e => n.1 (e ▸ List.mem_map.mpr ⟨r, hr, rfl⟩)
      rw [List.lookup_cons, show (r.1 == b) = false from beq_eq_false_iff_ne.mpr hne]
      exact ih n.2 r hr
section
variable {X : Cx} {b : Bool} {p p2 q pos : Pos} {e1 e2 e3 : Expr} {fs : List Sl → Option (List D)}
theorem se_zip3 (hc : X.calm = true) (hg : Gl X "list") (hm : X.mg "list" = none) (hg2 : Gl X "zip") (hm2 : X.mg "zip" = none) (hs1 : isStar e1 = false) (hs2 : isStar e2 = false) (hs3 : isStar e3 = false) (ha : SA X true [e1, e2, e3] fs) :
    SE X b (.Call (.Name "list" p) [.Call (.Name "zip" p2) [e1, e2, e3] [] q] [] pos) fun σ => (fs σ).bind zip3D := by
  have na : starEach [.Call (.Name "zip" p2) [e1, e2, e3] [] q] X.env = (false, eval (.Call (.Name "zip" p2) [e1, e2, e3] [] q) X.env) :: starEach [] X.env := starEach_cons (star_no rfl) _
  refine ⟨fun pins s σ H Q I ⟨O, Ow, es, d, hO, F, e, qq⟩ => ?_⟩
  obtain ⟨ds, f1, f2⟩ := bind_some e
  have hh := I.ok.hd hc
  refine Call_ (ld_blt I hg hm PyProof.Rows.boot_list ?_)
  refine PyProof.Rows.callWith_type1 (PyProof.Rows.args_cons ?_ na) na rfl
  refine Call_ (ld_blt I hg2 hm2 PyProof.Rows.boot_zip (PyProof.Rows.callWith_type1 (thn (ha.run q pins s σ H _ I ⟨O, Ow, es, ds, hO, F, f1, fun H1 vs s1 r1 => (⟨s1, r1⟩ : Same H H1 ∧ RoBs X.K X.w O H1 true vs ds)⟩) fun us s1 ⟨vs, H1, I1, r1, s2, ro⟩ => ?_) (starEach_cons (star_no hs1) _) (stars_no fun x hx => ?_)))
  · unfold zip3D at f2
    split at f2
    · rename_i xs ys zs ap
      obtain ⟨c, f2⟩ := cond_some f2
      simp only [Bool.and_eq_true, decide_eq_true_eq] at c
      obtain ⟨c1, c2, c3⟩ := c
      cases ro with | cons g1 ro =>
      cases ro with | cons g2 ro =>
      cases ro with | cons g3 ro =>
      cases ro
      obtain ⟨t1, vs1, rfl, q1, w1⟩ := g1.tup
      obtain ⟨t2, vs2, rfl, q2, w2⟩ := g2.tup
      obtain ⟨t3, vs3, rfl, q3, w3⟩ := g3.tup
      obtain ⟨i1, v1, p1, _⟩ := I1.tuple q1
      obtain ⟨i2, v2, p2, _⟩ := I1.tuple q2
      obtain ⟨i3, v3, p3, _⟩ := I1.tuple q3
      cases r1 with | cons z1 r1 =>
      cases r1 with | cons z2 r1 =>
      cases r1 with | cons z3 r1 =>
      cases r1
      cases z1
      cases z2
      cases z3
      have le1 : i1.length = xs.length := by rw [← v1.length, w1.length]
      have le2 : i2.length = i1.length := by rw [← v2.length, w2.length, c1, le1]
      have le3 : i3.length = i1.length := by rw [← v3.length, w3.length, c2, le1]
      have hf := few_line
      refine thn (list_zip3 (s := s1) hh p1 p2 p3 (by simpa using le2) (by simpa using le3) (by rw [List.size_toArray]; omega) fun h' tk acc c bad hS ha hbad kk => ?_) fun u s' h => PyProof.Rows.args_nil h
      have hlen : acc.toList.length = i1.length := by rw [Array.length_toList, ha.size, List.size_toArray]
      obtain ⟨rows, g1, g2, g3⟩ := rows3 (K := X.K) (w := X.w) (O := O) (H := H1) (h := h') (bad := bad) (N0 := s1.heap.objs.size) acc.toList v1 v2 v3 w1 w2 w3 hlen le2 le3 fun j v e => by
        obtain ⟨T, x1, x2, x3, b1, b2, b3, b4, b5, b6, b7⟩ := ha.at_ j v (by rw [← Array.getElem?_toList]; exact e)
        exact ⟨T, x1, x2, x3, b1, by simpa using b2, by simpa using b3, by simpa using b4, b5, b6, b7⟩
      have nd : (rows.map (·.1)).Nodup := by
        have := ha.nd
        rw [g1] at this
        have this : ((rows.map (·.1)).map fun a : Addr => Value.ref a).Nodup := by rw [List.map_map]; exact this
        exact List.Pairwise.of_map (S := fun a b : Value => a ≠ b) (fun a : Addr => Value.ref a) (fun a b hab e => hab (congrArg Value.ref e)) this
      let S := s1.heap.objs.size + 6
      let M : Addr → Option HO := fun b => if b = S then some (.lst (rows.map fun r => V.ref r.1)) else (rows.lookup b).map HO.tup
      have hSn : ∀ r ∈ rows, r.1 ≠ S := fun r hr e => (g2 r hr).2.1 (e ▸ hbad)
      have M1 : M S = some (.lst (rows.map fun r => V.ref r.1)) := by show (if S = S then _ else _) = _; rw [if_pos rfl]
      have M2 : ∀ r ∈ rows, M r.1 = some (.tup r.2) := fun r hr => by
        show (if r.1 = S then _ else _) = _
        rw [if_neg (hSn r hr), lookup_row nd r hr]; rfl
      have hrl : rows.length = i1.length := by
        have := congrArg List.length g1
        rw [List.length_map] at this
        rw [← this, hlen]
      have ok : ∀ b o, M b = some o → s1.heap.objs.size ≤ b ∧ ObjOk X.prog X.w (addM H1 M) h' b o := fun b o e => by
        by_cases hb : b = S
        · subst hb
          rw [M1] at e
          cases e
          refine ⟨Nat.le_add_right _ _, ?_⟩
          refine (show (rows.map fun r => V.ref r.1).length ≤ sizeLine ∧ ∃ (its : List Value) (n : Nat), Vals (rows.map fun r => V.ref r.1) its ∧ h'.get? S = some { cls := .type "list", data := .seq its.toArray n } from ⟨by rw [List.length_map]; omega, acc.toList, c, ?_, ?_⟩)
          · rw [g1]
            exact vals_rows rows
          · rw [Array.toArray_toList]; exact hS
        · have e : (if b = S then some (HO.lst (rows.map fun r => V.ref r.1)) else (rows.lookup b).map HO.tup) = some o := e
          rw [if_neg hb] at e
          obtain ⟨vs, e1, rfl⟩ := Option.map_eq_some_iff.mp e
          have hm : (b, vs) ∈ rows := lookup_memA e1
          obtain ⟨y1, y2, x1, x2, x3, v1, v2, v3, y3, y4, y5, y6, y7⟩ := g2 _ hm
          refine ⟨y1, ?_⟩
          simp only at y3
          subst y3
          exact (show [v1, v2, v3].length ≤ sizeLine ∧ ∃ its : List Value, Vals [v1, v2, v3] its ∧ IsTup h' b its.toArray from ⟨by show 3 ≤ sizeLine; rw [sizeLine_eq]; omega, [x1, x2, x3], .cons y4 (.cons y5 (.cons y6 .nil)), ⟨_, y7, rfl, _, rfl⟩⟩)
      have fr : ∀ b o, M b = some o → H1 b = none := fun b o e => I1.hok.fresh (ok b o e).1
      have sm := addM_same fr
      have hO1 := hO.same s2
      refine ⟨.ref S, addM H1 M, laidM I1 kk ok, rfl, qq _ _ (s2.trans sm) (.inl ?_)⟩
      rw [← Option.some.inj f2]
      exact .lst (.inl (addM_new M1)) (fun z => by
        obtain ⟨ys', e⟩ := hO1 _ z
        rw [fr S _ M1] at e
        cases e) (g3 _ sm fun r hr => addM_new (M2 r hr))
    · cases f2
  · rcases List.mem_cons.mp hx with rfl | hx
    · exact hs2
    · rw [List.mem_singleton.mp hx]; exact hs3
end
end EV

namespace EV
open PySem PySem.Spec PyProof.Rows L2

/-! ### what is walked -/
/-- an iterator over data, as long as the lists that are not in Z stay -/
structure Yld (K : PySem.W.Frag) (w : World) (O Z : Addr → Prop) (J : It) (H1 : Hp) (ds : List D) : Prop where
  go : ∀ (H2 : Hp) (i : Nat) (d : D), Keeps Z H1 H2 → ds[i]? = some d → J.go i H2 ∧ ∀ x H', J.yld i H2 x H' → Same H2 H' ∧ ∀ O' : Addr → Prop, (∀ a, O' a → O a ∨ H1 a = none) → Keeps O H1 H2 → Ro K w O' H' x d
  stop : ∀ H2 : Hp, Keeps Z H1 H2 → J.stop ds.length H2
def tI (K : PySem.W.Frag) (w : World) (b : Bool) (f : List Sl → Option (List D)) : TI := fun σ H R => ∃ O Ow es ds, OkO O H ∧ Fr K w O Ow es σ H ∧ f es = some ds ∧ ∀ J H1, Same H H1 → Yld K w O (fun a => b = false ∧ O a) J H1 ds → R J H1
abbrev SI (X : Cx) (b : Bool) (tg e : Expr) (f : List Sl → Option (List D)) : Prop := PI X tg e (tI X.K X.w b f)
section
variable {K : PySem.W.Frag} {w : World} {O Z : Addr → Prop} {H1 : Hp}
theorem yld_list {a : Addr} {vs : List V} {ds : List D} (h : Rd H1 a (.lst vs) ∧ ¬ Z a ∨ KL K a vs) (r : RoAll K w O H1 vs ds) : Yld K w O Z (Itl K a) H1 ds := by
  have at2 : ∀ H2, Keeps Z H1 H2 → SqL K H2 a vs := fun H2 k => by
    rcases h with ⟨h | ⟨o, h⟩, hz⟩ | h
    · exact .inl (.inl (k.l _ _ h hz))
    · exact .inl (.inr ⟨o, k.f _ _ _ h⟩)
    · exact .inr h
  refine ⟨fun H2 i d k e => ?_, fun H2 k => ⟨vs, at2 H2 k, by rw [r.length]; exact Nat.le_refl _⟩⟩
  obtain ⟨v, e1, e2⟩ := r.get e
  refine ⟨⟨vs, v, at2 H2 k, e1⟩, fun x H' ⟨h1, h2⟩ => ?_⟩
  subst h1
  refine ⟨Same.refl _, fun O' hO kk => ?_⟩
  have := h2 vs (at2 H' k)
  rw [e1] at this
  rw [← Option.some.inj this]
  exact e2.keeps kk hO
theorem yld_tup {a : Addr} {vs : List V} {ds : List D} (h : SqT K H1 a vs) (r : RoAll K w O H1 vs ds) : Yld K w O Z (Itt K a) H1 ds := by
  have at2 : ∀ H2, Keeps Z H1 H2 → SqT K H2 a vs := fun H2 k => by
    rcases h with (h | ⟨o, h⟩) | h
    · exact .inl (.inl (k.t _ _ h))
    · exact .inl (.inr ⟨o, k.f _ _ _ h⟩)
    · exact .inr h
  refine ⟨fun H2 i d k e => ?_, fun H2 k => ⟨vs, at2 H2 k, by rw [r.length]; exact Nat.le_refl _⟩⟩
  obtain ⟨v, e1, e2⟩ := r.get e
  refine ⟨⟨vs, v, at2 H2 k, e1⟩, fun x H' ⟨h1, h2⟩ => ?_⟩
  subst h1
  refine ⟨Same.refl _, fun O' hO kk => ?_⟩
  have := h2 vs (at2 H' k)
  rw [e1] at this
  rw [← Option.some.inj this]
  exact e2.keeps kk hO
theorem intRange_length : ∀ (n : Nat) (lo : Int), (intRange lo n).length = n
  | 0, _ => rfl
  | n + 1, lo => by rw [intRange, List.length_cons, intRange_length n]
theorem intRange_get : ∀ (n : Nat) (lo : Int) (i : Nat) (d : D), (intRange lo n)[i]? = some d → i < n ∧ d = .int (lo + i)
  | 0, _, _, _, e => by simp [intRange] at e
  | n + 1, lo, 0, d, e => by
    simp [intRange] at e
    exact ⟨Nat.succ_pos _, by rw [← e]; simp⟩
  | n + 1, lo, i + 1, d, e => by
    simp only [intRange, List.getElem?_cons_succ] at e
    obtain ⟨h1, h2⟩ := intRange_get n (lo + 1) i d e
    refine ⟨Nat.succ_lt_succ h1, ?_⟩
    rw [h2]
    have : lo + 1 + (i : Int) = lo + ((i + 1 : Nat) : Int) := by omega
    rw [this]
theorem yld_range {lo : Int} {n : Nat} : Yld K w O Z (Itr lo n) H1 (intRange lo n) := by
  refine ⟨fun H2 i d k e => ?_, fun H2 k => by rw [intRange_length]; exact Nat.le_refl _⟩
  obtain ⟨h1, h2⟩ := intRange_get n lo i d e
  refine ⟨h1, fun x H' ⟨e1, e2⟩ => ?_⟩
  subst e1 e2 h2
  exact ⟨Same.refl _, fun _ _ _ => .int _⟩
theorem zip_get : ∀ (xs ys : List D) (i : Nat) (d : D), (zipT xs ys)[i]? = some d → ∃ x y, xs[i]? = some x ∧ ys[i]? = some y ∧ d = .tuple [x, y]
  | [], _, i, d, e => by simp [zipT] at e
  | x :: xs, [], i, d, e => by simp [zipT] at e
  | x :: xs, y :: ys, 0, d, e => by simp [zipT] at e; exact ⟨x, y, rfl, rfl, e.symm⟩
  | x :: xs, y :: ys, i + 1, d, e => by
    obtain ⟨a, b, h1, h2, h3⟩ := zip_get xs ys i d (by simpa [zipT] using e)
    exact ⟨a, b, by simpa using h1, by simpa using h2, h3⟩
theorem zip_len : ∀ (xs ys : List D), xs.length ≤ (zipT xs ys).length ∨ ys.length ≤ (zipT xs ys).length
  | [], _ => .inl (Nat.zero_le _)
  | x :: xs, [] => .inr (Nat.zero_le _)
  | x :: xs, y :: ys => by
    rcases zip_len xs ys with h | h
    · exact .inl (by simp [zipT]; exact h)
    · exact .inr (by simp [zipT]; exact h)
theorem yld_zipT {a b : Addr} {vs ws : List V} {ds es : List D} (ha : SqT K H1 a vs) (hb : SqT K H1 b ws) (ra : RoAll K w O H1 vs ds) (rb : RoAll K w O H1 ws es) : Yld K w O Z (RZ.ItzT K a b) H1 (zipT ds es) := by
  have at2 : ∀ {a : Addr} {vs : List V}, SqT K H1 a vs → ∀ H2, Keeps Z H1 H2 → SqT K H2 a vs := fun h H2 k => by
    rcases h with (h | ⟨o, h⟩) | h
    · exact .inl (.inl (k.t _ _ h))
    · exact .inl (.inr ⟨o, k.f _ _ _ h⟩)
    · exact .inr h
  refine ⟨fun H2 i d k e => ?_, fun H2 k => ⟨vs, ws, at2 ha H2 k, at2 hb H2 k, by rw [ra.length, rb.length]; exact zip_len ds es⟩⟩
  obtain ⟨x, y, hx, hy, rfl⟩ := zip_get ds es i d e
  obtain ⟨v, e1, e2⟩ := ra.get hx
  obtain ⟨u, e3, e4⟩ := rb.get hy
  refine ⟨⟨vs, ws, v, u, at2 ha H2 k, at2 hb H2 k, e1, e3⟩, fun x' H' ⟨T, x1, y1, hx', hT, hH, f1, f2⟩ => ?_⟩
  subst hx' hH
  have g1 := f1 vs (at2 ha H2 k)
  have g2 := f2 ws (at2 hb H2 k)
  rw [e1] at g1
  rw [e3] at g2
  refine ⟨same_upd hT, fun O' hO kk => ?_⟩
  rw [← Option.some.inj g1, ← Option.some.inj g2]
  exact Ro.newT hT (.cons (e2.keeps kk hO) (.cons (e4.keeps kk hO) .nil))
theorem yld_zipL {a b : Addr} {vs ws : List V} {ds es : List D} (ha : Rd H1 a (.lst vs) ∧ ¬ Z a ∨ KL K a vs) (hb : Rd H1 b (.lst ws) ∧ ¬ Z b ∨ KL K b ws) (ra : RoAll K w O H1 vs ds) (rb : RoAll K w O H1 ws es) : Yld K w O Z (Itz K a b) H1 (zipT ds es) := by
  have at2 : ∀ {a : Addr} {vs : List V}, Rd H1 a (.lst vs) ∧ ¬ Z a ∨ KL K a vs → ∀ H2, Keeps Z H1 H2 → SqL K H2 a vs := fun h H2 k => by
    rcases h with ⟨h | ⟨o, h⟩, hz⟩ | h
    · exact .inl (.inl (k.l _ _ h hz))
    · exact .inl (.inr ⟨o, k.f _ _ _ h⟩)
    · exact .inr h
  refine ⟨fun H2 i d k e => ?_, fun H2 k => ⟨vs, ws, at2 ha H2 k, at2 hb H2 k, by rw [ra.length, rb.length]; exact zip_len ds es⟩⟩
  obtain ⟨x, y, hx, hy, rfl⟩ := zip_get ds es i d e
  obtain ⟨v, e1, e2⟩ := ra.get hx
  obtain ⟨u, e3, e4⟩ := rb.get hy
  refine ⟨⟨vs, ws, v, u, at2 ha H2 k, at2 hb H2 k, e1, e3⟩, fun x' H' ⟨T, x1, y1, hx', hT, hH, f1, f2⟩ => ?_⟩
  subst hx' hH
  have g1 := f1 vs (at2 ha H2 k)
  have g2 := f2 ws (at2 hb H2 k)
  rw [e1] at g1
  rw [e3] at g2
  refine ⟨same_upd hT, fun O' hO kk => ?_⟩
  rw [← Option.some.inj g1, ← Option.some.inj g2]
  exact Ro.newT hT (.cons (e2.keeps kk hO) (.cons (e4.keeps kk hO) .nil))
end
theorem _root_.L2.PI.imp {X : Cx} {tg e : Expr} {t t' : TI} (h : PI X tg e t) (hi : ∀ σ H Q, t' σ H Q → t σ H Q) : PI X tg e t' := ⟨fun pins s σ H Q I hq => h.run pins s σ H Q I (hi _ _ _ hq)⟩
section
variable {X : Cx} {b : Bool} {tg e e1 e2 : Expr} {pos p : Pos} {f f1 f2 : List Sl → Option D} {g : List Sl → Option Bool}
theorem si_seq (h : SE X b e f) : SI X b tg e fun σ => (f σ).bind items := by
  refine ⟨fun pins s σ H R I ⟨O, Ow, es, ds, hO, F, e0, q⟩ => ?_⟩
  obtain ⟨d, e1, e2⟩ := bind_some e0
  cases d with
  | list l =>
    cases e2
    refine (pi_list h).run pins s σ H R I ⟨O, Ow, es, _, hO, F, e1, fun H1 v s1 r1 => ?_⟩
    have r2 : ∃ a xs, v = .ref a ∧ (Rd H1 a (.lst xs) ∧ ¬ (b = false ∧ O a) ∨ KL X.K a xs) ∧ RoAll X.K X.w O H1 xs ds := by
      cases b with
      | true =>
        obtain ⟨a, xs, h1, h2, h3⟩ := r1.list
        refine ⟨a, xs, h1, ?_, h3⟩
        rcases h2 with h2 | h2
        · exact .inl ⟨h2, fun z => by cases z.1⟩
        · exact .inr h2
      | false =>
        cases r1.no with
        | lst h1 h2 h3 => exact ⟨_, _, rfl, .inl ⟨h1, fun z => h2 z.2⟩, h3⟩
        | kls h1 h3 => exact ⟨_, _, rfl, .inr h1, h3⟩
    obtain ⟨a, xs, rfl, h2, h4⟩ := r2
    refine ⟨a, rfl, ⟨xs, ?_⟩, q _ H1 s1 (yld_list h2 h4)⟩
    rcases h2 with h2 | h2
    · exact .inl h2.1
    · exact .inr h2
  | tuple l =>
    cases e2
    refine (pi_tup h).run pins s σ H R I ⟨O, Ow, es, _, hO, F, e1, fun H1 v s1 r1 => ?_⟩
    obtain ⟨a, xs, rfl, h2, h4⟩ := r1.tup
    exact ⟨a, rfl, ⟨xs, h2⟩, q _ H1 s1 (yld_tup h2 h4)⟩
  | _ => cases e2
theorem small62_ok {i : Int} (h : small62 i = true) : -(2 ^ 62) ≤ i ∧ i < 2 ^ 62 := by
  rw [small62, Bool.and_eq_true] at h
  exact ⟨of_decide_eq_true h.1, of_decide_eq_true h.2⟩
theorem si_range1 {x : Str} (hx : x = "range") (hg : Gl X x) (hm : X.mg x = none) (hs : isStar e = false) (h : SE X b e f) :
    SI X b tg (.Call (.Name x p) [e] [] pos) fun σ => (f σ).bind fun d => match d with | .int j => cond (small62 j) (some (intRange 0 j.toNat)) none | _ => none := by
  subst hx
  refine (pi_range1 hg hm (pa_cons h pa_nil (starEach_cons (star_no hs) _)) (starEach_cons (star_no hs) _)).imp fun σ H R ⟨O, Ow, es, ds, hO, F, e, q⟩ => ?_
  obtain ⟨d, e1, e⟩ := bind_some e
  refine ⟨O, Ow, es, d, hO, F, e1, fun H1 v s1 r1 => ?_⟩
  cases d with
  | int j =>
    obtain ⟨c, e⟩ := cond_some e
    obtain ⟨c1, c2⟩ := small62_ok c
    cases e
    cases r1.int
    exact ⟨j, rfl, c1, c2, q _ H1 s1 yld_range⟩
  | _ => cases e
theorem si_range2 {x : Str} (hx : x = "range") (hg : Gl X x) (hm : X.mg x = none) (hs1 : isStar e1 = false) (hs2 : isStar e2 = false) (h1 : SE X b e1 f1) (h2 : SE X b e2 f2) :
    SI X b tg (.Call (.Name x p) [e1, e2] [] pos) fun σ => (f1 σ).bind fun d => (f2 σ).bind fun d' => match d, d' with
      | .int i, .int j => cond (small62 i && small62 j) (some (intRange i (j - i).toNat)) none
      | _, _ => none := by
  subst hx
  have e2' : starEach [e2] X.env = [(false, eval e2 X.env)] := starEach_cons (star_no hs2) _
  have e1' : starEach [e1, e2] X.env = (false, eval e1 X.env) :: starEach [e2] X.env := starEach_cons (star_no hs1) _
  refine (pi_range2 hg hm (pa_cons h1 (pa_cons h2 pa_nil e2') e1') (by rw [e1', e2']) e2').imp fun σ H R ⟨O, Ow, es, ds, hO, F, e, q⟩ => ?_
  obtain ⟨d, e1, e⟩ := bind_some e
  obtain ⟨d', e2, e⟩ := bind_some e
  refine ⟨O, Ow, es, d, hO, F, e1, fun H1 v s1 r1 => ⟨O, Ow, es, d', hO.same s1, F.same s1, e2, fun H2 v' s2 r2 => ?_⟩⟩
  cases d with
  | int i =>
    cases d' with
    | int j =>
      obtain ⟨c, e⟩ := cond_some e
      rw [Bool.and_eq_true] at c
      cases e
      cases r1.int
      cases r2.int
      exact ⟨i, j, rfl, ⟨(small62_ok c.1).1, (small62_ok c.1).2, (small62_ok c.2).1, (small62_ok c.2).2⟩, q _ H2 (s1.trans s2) yld_range⟩
    | _ => cases e
  | _ => cases e
theorem RoB.lz {b : Bool} {K : PySem.W.Frag} {w : World} {O : Addr → Prop} {H : Hp} {v : V} {l : List D} (r : RoB K w O H b v (.list l)) : ∃ a xs, v = .ref a ∧ (Rd H a (.lst xs) ∧ ¬ (b = false ∧ O a) ∨ KL K a xs) ∧ RoAll K w O H xs l := by
  cases b with
  | true =>
    obtain ⟨a, xs, h1, h2, h3⟩ := r.list
    refine ⟨a, xs, h1, ?_, h3⟩
    rcases h2 with h2 | h2
    · exact .inl ⟨h2, fun z => by cases z.1⟩
    · exact .inr h2
  | false =>
    cases r.no with
    | lst h1 h2 h3 => exact ⟨_, _, rfl, .inl ⟨h1, fun z => h2 z.2⟩, h3⟩
    | kls h1 h3 => exact ⟨_, _, rfl, .inr h1, h3⟩
theorem sql_of {K : PySem.W.Frag} {H : Hp} {a : Addr} {xs : List V} {Z : Prop} (h : Rd H a (.lst xs) ∧ Z ∨ KL K a xs) : SqL K H a xs := h.elim (fun z => .inl z.1) .inr
theorem si_zip {x : Str} {elts : List Expr} {kk : Nat} {tpos : Pos} (hx : x = "zip") (hg : Gl X x) (hm : X.mg x = none) (hs1 : isStar e1 = false) (hs2 : isStar e2 = false) (h1 : SE X b e1 f1) (h2 : SE X b e2 f2) :
    SI X b (.Tuple elts kk tpos) (.Call (.Name x p) [e1, e2] [] pos) fun σ => (f1 σ).bind fun d => (f2 σ).bind fun d' => zipD d d' := by
  subst hx
  have e2' : starEach [e2] X.env = [(false, eval e2 X.env)] := starEach_cons (star_no hs2) _
  have e1' : starEach [e1, e2] X.env = (false, eval e1 X.env) :: starEach [e2] X.env := starEach_cons (star_no hs1) _
  refine (RZ.pi_zipA hg hm (pa_cons h1 (pa_cons h2 pa_nil e2') e1') e1' (by rw [e2']; rfl)).imp fun σ H R ⟨O, Ow, es, ds, hO, F, e, q⟩ => ?_
  obtain ⟨d, e1, e⟩ := bind_some e
  obtain ⟨d', e2, e⟩ := bind_some e
  refine ⟨O, Ow, es, d, hO, F, e1, fun H1 v s1 r1 => ⟨O, Ow, es, d', hO.same s1, F.same s1, e2, fun H2 v' s2 r2 => ?_⟩⟩
  have r1 := r1.same s2
  unfold zipD at e
  split at e
  · cases e
    obtain ⟨a, xs, rfl, ha, h3⟩ := r1.lz
    obtain ⟨a', xs', rfl, hb, h4⟩ := r2.lz
    exact ⟨a, a', xs, xs', rfl, .inl ⟨sql_of ha, sql_of hb, q _ H2 (s1.trans s2) (yld_zipL ha hb h3 h4)⟩⟩
  · cases e
    obtain ⟨a, xs, rfl, ha, h3⟩ := r1.tup
    obtain ⟨a', xs', rfl, hb, h4⟩ := r2.tup
    exact ⟨a, a', xs, xs', rfl, .inr ⟨ha, hb, q _ H2 (s1.trans s2) (yld_zipT ha hb h3 h4)⟩⟩
  · cases e

/-! ### targets -/
/-- a store in the slots of vs alone -/
def tG (K : PySem.W.Frag) (w : World) (vs : List Nat) (g : List Sl → D → Option (List Sl)) : TG := fun v σ H Q => ∃ O Ow es d es', OkO O H ∧ Fr K w O Ow es σ H ∧ Ro K w O H v d ∧ g es d = some es' ∧
  ∀ σ' H', Same H H' → σ'.length = σ.length → (∀ j, j ∉ vs → σ'[j]? = σ[j]?) → Fr K w O Ow es' σ' H' → Q σ' H'
abbrev SG (X : Cx) (vs : List Nat) (t : Expr) (g : List Sl → D → Option (List Sl)) : Prop := PG X t (tG X.K X.w vs g)
theorem Fr.set {K : PySem.W.Frag} {w : World} {O Ow : Addr → Prop} {es : List Sl} {σ : L2.St} {H : Hp} {i : Nat} {v : V} {d : D} (hi : i < σ.length) (F : Fr K w O Ow es σ H) (r : Ro K w O H v d) : Fr K w O Ow (es.set i (.sh d)) (σ.set i (some v)) H := by
  intro j s e
  by_cases hj : i = j
  · subst hj
    have hl : i < es.length := by
      have := (List.getElem?_eq_some_iff.mp e).1
      simpa using this
    rw [List.getElem?_set_self hl] at e
    cases e
    rw [List.getElem?_set_self hi]
    exact ⟨v, rfl, r⟩
  · rw [List.getElem?_set_ne hj] at e ⊢
    exact F j s e
theorem _root_.L2.PG.imp {t : Expr} {a a' : TG} (h : PG X t a) (hi : ∀ v σ H Q, a' v σ H Q → a v σ H Q) : PG X t a' := ⟨fun pins s σ H v u Q I r hq => h.run pins s σ H v u Q I r (hi _ _ _ _ hq)⟩
/-- the same for what only keeps the state's length: it is asked of Inv -/
theorem sg_name {i : Nat} {x : Str} (hN : X.N.Nodup) (hi : X.N[i]? = some x) (hx : Loc X.env.scope x) (hf : X.fn x = true ∨ X.env.scope.names.lookup x = some .local) : SG X [i] (.Name x pos) fun es d => some (es.set i (.sh d)) := by
  refine ⟨fun pins s σ H v u Q I r ⟨O, Ow, es, d, es', hO, F, ro, e, q⟩ => ?_⟩
  have hl : i < σ.length := by
    rw [I.len]
    exact (List.getElem?_eq_some_iff.mp hi).1
  cases e
  refine (pg_name (pos := pos) hN hi hx hf).run pins s σ H v u Q I r ?_
  exact q _ H (Same.refl H) (by rw [List.length_set]) (fun j hj => List.getElem?_set_ne (fun z => hj (by rw [z]; exact List.mem_singleton_self j))) (F.set hl ro)
end
end EV

namespace EV
open PySem PySem.Spec PyProof.Rows L2
theorem ix_get {x : Str} {i : Nat} {N : List Str} (h : N.idxOf? x = some i) : N[i]? = some x := by
  unfold List.idxOf? at h
  rw [List.findIdx?_eq_some_iff_getElem] at h
  obtain ⟨hi, h1, _⟩ := h
  rw [List.getElem?_eq_getElem hi]
  have : N[i] = x := by simpa using h1
  rw [this]
def StoreOk (X : Cx) (x : Str) : Prop := Loc X.env.scope x ∧ (X.fn x = true ∨ X.env.scope.names.lookup x = some .local)
section
variable {X : Cx} {b : Bool} {pos : Pos} {vs : List Nat}
theorem SG.mono {vs vs' : List Nat} {t : Expr} {g : List Sl → D → Option (List Sl)} (h : SG X vs t g) (hs : ∀ j ∈ vs, j ∈ vs') : SG X vs' t g :=
  h.imp fun v σ H Q ⟨O, Ow, es, d, es', hO, F, ro, e, q⟩ => ⟨O, Ow, es, d, es', hO, F, ro, e, fun σ' H' s l k F' => q σ' H' s l (fun j hj => k j fun z => hj (hs j z)) F'⟩
theorem sg_asgN {x : Str} (hN : X.N.Nodup) (hs : StoreOk X x) : SG X (namesIx X.N [.Name x pos]) (.Name x pos) fun es d => asgN X.N es x d := by
  cases e : X.N.idxOf? x with
  | none => exact ⟨fun pins s σ H v u Q I r ⟨O, Ow, es, d, es', hO, F, ro, e', q⟩ => by unfold asgN at e'; rw [e] at e'; cases e'⟩
  | some i =>
    have h := sg_name (pos := pos) hN (ix_get e) hs.1 hs.2
    have e2 : namesIx X.N [.Name x pos] = [i] := by simp [namesIx, e]
    rw [e2]
    refine h.imp fun v σ H Q ⟨O, Ow, es, d, es', hO, F, ro, e', q⟩ => ⟨O, Ow, es, d, es', hO, F, ro, ?_, q⟩
    unfold asgN at e'
    rw [e] at e'
    exact e'
/-- several names -/
def tGs (K : PySem.W.Frag) (w : World) (vs : List Nat) (g : List D → List Sl → Option (List Sl)) : TGs := fun us σ H Q => ∃ O Ow es ds es', OkO O H ∧ Fr K w O Ow es σ H ∧ RoAll K w O H us ds ∧ g ds es = some es' ∧
  ∀ σ' H', Same H H' → σ'.length = σ.length → (∀ j, j ∉ vs → σ'[j]? = σ[j]?) → Fr K w O Ow es' σ' H' → Q σ' H'
theorem _root_.L2.PGs.imp {ts : List Expr} {a a' : TGs} (h : PGs X ts a) (hi : ∀ v σ H Q, a' v σ H Q → a v σ H Q) : PGs X ts a' := ⟨fun pins s σ H v u Q I r hq => h.run pins s σ H v u Q I r (hi _ _ _ _ hq)⟩
def areNames : List Expr → Bool
  | [] => true
  | .Name _ _ :: r => areNames r
  | _ => false
theorem assign_names {env : Env} : ∀ {es : List Expr}, areNames es = true → (assignEach es env).length = es.length ∧ (assignEach es env).findIdx? (·.1) = none
  | [], _ => ⟨rfl, rfl⟩
  | .Name x p :: r, h => by
    obtain ⟨h1, h2⟩ := assign_names (env := env) (es := r) h
    refine ⟨by show (assignEach r env).length + 1 = _; rw [h1]; rfl, ?_⟩
    show ((false, assign (.Name x p) env) :: assignEach r env).findIdx? (·.1) = none
    rw [List.findIdx?_cons, h2]; rfl
theorem sgs_names (hN : X.N.Nodup) : ∀ {es : List Expr}, areNames es = true → (∀ x p, Expr.Name x p ∈ es → StoreOk X x) → PGs X es (tGs X.K X.w (namesIx X.N es) fun ds σ => asgs X.N es ds σ)
  | [], _, _ => pgs_nil.imp fun us σ H Q ⟨O, Ow, es, ds, es', hO, F, ro, e, q⟩ => by
    cases ro with
    | nil => cases e; exact ⟨rfl, q σ H (Same.refl H) rfl (fun _ _ => rfl) F⟩
    | cons _ _ => cases e
  | .Name x p :: r, h, hs => by
    have h1 := sg_asgN (pos := p) hN (hs x p List.mem_cons_self)
    have h2 := sgs_names hN (es := r) h fun y q hy => hs y q (List.mem_cons_of_mem _ hy)
    refine (pgs_cons h1 h2 rfl).imp fun us σ H Q ⟨O, Ow, es, ds, es', hO, F, ro, e, q⟩ => ?_
    cases ro with
    | nil => cases e
    | @cons v vs d ds r1 r2 =>
      have e : (asgN X.N es x d).bind (fun σ' => asgs X.N r ds σ') = some es' := e
      obtain ⟨es1, e1, e2⟩ := bind_some e
      refine ⟨v, vs, rfl, O, Ow, es, d, es1, hO, F, r1, e1, fun σ1 H1 s1 l1 k1 F1 => ?_⟩
      refine ⟨O, Ow, es1, ds, es', hO.same s1, F1, r2.same s1, e2, fun σ2 H2 s2 l2 k2 F2 => ?_⟩
      refine q σ2 H2 (s1.trans s2) (l2.trans l1) (fun j hj => ?_) F2
      have n1 : j ∉ namesIx X.N [.Name x p] ∧ j ∉ namesIx X.N r := by
        simp only [namesIx] at hj ⊢
        split at hj
        · rename_i i hi
          simp only [List.mem_cons, not_or] at hj
          simp [hj.1, hj.2]
        · exact ⟨by simp, hj⟩
      rw [k2 j n1.2, k1 j n1.1]
theorem asgs_length {N : List Str} : ∀ {ts : List Expr} {ds : List D} {es es' : List Sl}, asgs N ts ds es = some es' → ds.length = ts.length
  | ts, ds, es, es', e => by
    unfold asgs at e
    split at e
    · rfl
    · obtain ⟨es1, _, e2⟩ := bind_some e
      simp [asgs_length e2]
    · cases e
theorem sg_asg {t : Expr} (hN : X.N.Nodup) (hc : X.calm = true) (ht : (∃ x p, t = .Name x p ∧ StoreOk X x) ∨ ∃ es k p, t = .Tuple es k p ∧ areNames es = true ∧ ∀ x p, Expr.Name x p ∈ es → StoreOk X x) :
    SG X (tgIx X.N t) t fun es d => asg X.N es t d := by
  rcases ht with ⟨x, p, rfl, hs⟩ | ⟨ts, k, p, rfl, ha, hs⟩
  · exact sg_asgN hN hs
  · obtain ⟨a1, a2⟩ := assign_names (env := X.env) ha
    refine ⟨fun pins s σ H v u Q I r ⟨O, Ow, es, d, es', hO, F, ro, e, q⟩ => ?_⟩
    unfold asg at e
    cases d with
    | tuple ds =>
      cases ro with
      | tup h1 h2 =>
        refine (pg_tup hc (sgs_names hN ha hs) rfl a2).run pins s σ H _ u Q I r ⟨_, _, rfl, h1, ?_, O, Ow, es, ds, es', hO, F, h2, e, q⟩
        rw [a1, h2.length]
        exact asgs_length e
    | list ds =>
      have hb : RoB X.K X.w O H false v (.list ds) := .inl ro
      obtain ⟨a, vs, rfl, h1, h2⟩ := hb.list
      refine (pg_lst hc (sgs_names hN ha hs) rfl a2).run pins s σ H _ u Q I r ⟨_, _, rfl, h1, ?_, O, Ow, es, ds, es', hO, F, h2, e, q⟩
      rw [a1, h2.length]
      exact asgs_length e
    | _ => cases e

/-! ### wiping -/
theorem wipeD_length (es : List Sl) : ∀ vs : List Nat, (wipeD es vs).length = es.length
  | [] => rfl
  | v :: vs => by unfold wipeD; rw [List.length_set, wipeD_length es vs]
theorem wipeD_get {es : List Sl} {j : Nat} : ∀ {vs : List Nat}, j ∉ vs → (wipeD es vs)[j]? = es[j]?
  | [], _ => rfl
  | v :: vs, h => by
    simp only [List.mem_cons, not_or] at h
    unfold wipeD
    rw [List.getElem?_set_ne (fun z => h.1 z.symm), wipeD_get h.2]
theorem wipeD_un {es : List Sl} {j : Nat} {s : Sl} : ∀ {vs : List Nat}, j ∈ vs → (wipeD es vs)[j]? = some s → s = .un
  | v :: vs, h, e => by
    unfold wipeD at e
    by_cases hj : v = j
    · subst hj
      have hl : v < (wipeD es vs).length := by
        have := (List.getElem?_eq_some_iff.mp e).1
        simpa using this
      rw [List.getElem?_set_self hl] at e
      exact (Option.some.inj e).symm
    · rw [List.getElem?_set_ne hj] at e
      rcases List.mem_cons.mp h with z | z
      · exact absurd z.symm hj
      · exact wipeD_un z e
theorem wipe_get {σ : L2.St} {j : Nat} : ∀ {vs : List Nat}, j ∉ vs → (wipe σ vs)[j]? = σ[j]?
  | [], _ => rfl
  | v :: vs, h => by
    simp only [List.mem_cons, not_or] at h
    unfold wipe
    rw [List.getElem?_set_ne (fun z => h.1 z.symm), wipe_get h.2]
theorem wipe_non {σ : L2.St} {j : Nat} : ∀ {vs : List Nat}, j ∈ vs → j < σ.length → (wipe σ vs)[j]? = some none
  | v :: vs, h, hl => by
    unfold wipe
    by_cases hj : v = j
    · subst hj
      rw [List.getElem?_set_self (by rw [wipe_length]; exact hl)]
    · rw [List.getElem?_set_ne hj]
      rcases List.mem_cons.mp h with z | z
      · exact absurd z.symm hj
      · exact wipe_non z hl
theorem wipe_eq {σ σ' : L2.St} {vs : List Nat} (hl : σ'.length = σ.length) (h : ∀ j, j ∉ vs → σ'[j]? = σ[j]?) : wipe σ' vs = wipe σ vs := by
  apply List.ext_getElem?
  intro j
  by_cases hj : j ∈ vs
  · by_cases hlt : j < σ.length
    · rw [wipe_non hj hlt, wipe_non hj (by rw [hl]; exact hlt)]
    · rw [List.getElem?_eq_none (by rw [wipe_length]; omega), List.getElem?_eq_none (by rw [wipe_length]; omega)]
  · rw [wipe_get hj, wipe_get hj, h j hj]
theorem Fr.wipe {K : PySem.W.Frag} {w : World} {O Ow : Addr → Prop} {es : List Sl} {σ : L2.St} {H : Hp} {vs : List Nat} (F : Fr K w O Ow es σ H) : Fr K w O Ow (wipeD es vs) (wipe σ vs) H := by
  intro j s e
  by_cases hj : j ∈ vs
  · rw [wipeD_un hj e]; trivial
  · rw [wipeD_get hj] at e
    rw [wipe_get hj]
    exact F j s e
theorem Fr.more {K : PySem.W.Frag} {w : World} {O O' Ow Ow' : Addr → Prop} {es : List Sl} {σ : L2.St} {H H' : Hp} (s : Same H H') (hO : ∀ a, O' a → O a ∨ H a = none) (h1 : ∀ a, O a → O' a) (h2 : ∀ a, O a → Ow a → Ow' a) (F : Fr K w O Ow es σ H) : Fr K w O' Ow' es σ H' := by
  intro j t e
  have h := F j t e
  cases t with
  | un => trivial
  | sh d => obtain ⟨v, e, r⟩ := h; exact ⟨v, e, r.keeps (Same.keeps s) hO⟩
  | ow l => obtain ⟨a, xs, e, k1, k0, k2⟩ := h; exact ⟨a, xs, e, s _ _ k1, ⟨h1 _ k0.1, h2 _ k0.1 k0.2⟩, k2.keeps (Same.keeps s) hO⟩
/-- .. where other lists may change -/
theorem Fr.keeps {K : PySem.W.Frag} {w : World} {O Ow : Addr → Prop} {es : List Sl} {σ : L2.St} {H H' : Hp} (k : Keeps O H H') (hw : ∀ a xs, Ow a → H a = some (.lst xs) → H' a = some (.lst xs)) (F : Fr K w O Ow es σ H) : Fr K w O Ow es σ H' := by
  intro j t e
  have h := F j t e
  cases t with
  | un => trivial
  | sh d => obtain ⟨v, e, r⟩ := h; exact ⟨v, e, r.keeps k fun _ z => .inl z⟩
  | ow l => obtain ⟨a, xs, e, k1, k0, k2⟩ := h; exact ⟨a, xs, e, hw _ _ k0.2 k1, k0, k2.keeps k fun _ z => .inl z⟩
end
end EV

namespace EV
open PySem PySem.Spec PyProof.Rows L2
theorem lim_some {r : Option (List D)} {d : D} (h : lim r = some d) : ∃ ys, r = some ys ∧ ys.length ≤ few ∧ d = .list ys := by
  obtain ⟨ys, e1, e2⟩ := bind_some h
  obtain ⟨c, e3⟩ := cond_some e2
  exact ⟨ys, e1, of_decide_eq_true c, (Option.some.inj e3).symm⟩
theorem drop_at {α : Type} {xs : List α} {i : Nat} (h : i < xs.length) : xs.drop i = xs[i] :: xs.drop (i + 1) := by
  rw [List.drop_eq_getElem_cons h]
section
variable {K : PySem.W.Frag} {w : World} {O : Addr → Prop} {H : Hp}
/-- the comprehension's list grows: what else there is stays -/
theorem grow_keeps {D0 : Addr} {vs ws : List V} (h : H D0 = some (.lst vs)) : Keeps (fun a => O a ∨ a = D0) H (upd H D0 (.lst ws)) := by
  refine ⟨fun a xs e n => ?_, fun a xs e => ?_, fun a o u e => ?_, fun a φ e => ?_, fun a fs e => ?_⟩
  · rw [upd_ne (fun z => n (.inr z))]; exact e
  · rw [upd_ne (fun z => by rw [z, h] at e; cases e)]; exact e
  · rw [upd_ne (fun z => by rw [z, h] at e; cases e)]; exact e
  · rw [upd_ne (fun z => by rw [z, h] at e; cases e)]; exact e
  · rw [upd_ne (fun z => by rw [z, h] at e; cases e)]; exact e
theorem grow_all {D0 : Addr} {vs : List V} {v : V} {ys : List D} {y : D} (h : H D0 = some (.lst vs)) (r : RoAll K w (fun a => O a ∨ a = D0) H vs ys) (r1 : Ro K w (fun a => O a ∨ a = D0) H v y) :
    RoAll K w (fun a => O a ∨ a = D0) (upd H D0 (.lst (vs ++ [v]))) (vs ++ [v]) (ys ++ [y]) :=
  (r.app (.cons r1 .nil)).keeps (grow_keeps h) fun _ z => .inl z
theorem grow_same {H1 : Hp} {D0 : Addr} {ws : List V} (h1 : H1 D0 = none) (s : Same H1 H) : Same H1 (upd H D0 (.lst ws)) := fun b o e => by
  rw [upd_ne (ne_of_none e h1)]; exact s b o e
theorem okO_grow {D0 : Addr} {vs : List V} (hO : OkO O H) (h : H D0 = some (.lst vs)) : OkO (fun a => O a ∨ a = D0) H := fun a z => by
  rcases z with z | z
  · exact hO a z
  · subst z; exact ⟨vs, h⟩
end
section
variable {X : Cx} {tg it elt : Expr} {ifs : List Expr} {scope : Scope} {own : List (Str × Nat)} {pos : Pos} {fi : List Sl → Option (List D)} {g : List Sl → D → Option (List Sl)} {t : List Sl → Option Bool} {f : List Sl → Option D}
abbrev blk (X : Cx) (scope : Scope) (s : Shared) (H : Hp) (C : Addr) (cl : List (Str × Addr)) (fp : List Addr) : Cx := X.blk s H scope (compEnvC scope cl C X.env) fp
theorem comp1_read {σ : L2.St} {H : Hp} {Q : VK} (h : tF X.K X.w (fun σ => (fi σ).bind fun xs => lim (comp1 (g (wipeD σ (own.map (·.2)))) t f xs)) σ H Q) :
    tLc (tI X.K X.w true fi) (tG X.K X.w (own.map (·.2)) g) (tT X.K X.w t) (tE X.K X.w false f) (own.map (·.2)) σ H Q := by
  obtain ⟨O, Ow, es, d, hO, F, e, q⟩ := h
  obtain ⟨xs, e1, e2⟩ := bind_some e
  obtain ⟨ys, e3, hl, rfl⟩ := lim_some e2
  have hf := few_line
  refine ⟨O, Ow, es, xs, hO, F, e1, fun J H1 s1 Y D0 hD => ?_⟩
  have hO1 : ∀ a, (O a ∨ a = D0) → O a ∨ H1 a = none := fun a z => z.imp id fun z => by rw [z]; exact hD
  refine ⟨fun i m H2 => ∃ ys1 ys2 vs, m = xs.length - i ∧ i ≤ xs.length ∧ Same H1 H2 ∧ comp1 (g (wipeD es (own.map (·.2)))) t f (xs.drop i) = some ys2 ∧ ys = ys1 ++ ys2 ∧ H2 D0 = some (.lst vs) ∧ RoAll X.K X.w (fun a => O a ∨ a = D0) H2 vs ys1, ⟨_, [], ys, [], rfl, Nat.zero_le _, same_upd hD, e3, rfl, upd_same, .nil⟩, ?_⟩
  rintro i m H2 ⟨ys1, ys2, vs, rfl, hi, s2, c2, ey, h2, r2⟩
  have kz : Keeps (fun a => true = false ∧ O a) H1 H2 := Same.keeps s2
  by_cases hlt : i < xs.length
  · refine .inr ⟨(Y.go H2 i xs[i] kz (List.getElem?_eq_getElem hlt)).1, fun H3 => ∃ ys1 ys2 vs, i + 1 ≤ xs.length ∧ Same H1 H3 ∧ comp1 (g (wipeD es (own.map (·.2)))) t f (xs.drop (i + 1)) = some ys2 ∧ ys = ys1 ++ ys2 ∧ H3 D0 = some (.lst vs) ∧ RoAll X.K X.w (fun a => O a ∨ a = D0) H3 vs ys1,
      fun H3 ⟨a1, a2, a3, b1, b2, b3, b4, b5, b6⟩ => ⟨xs.length - (i + 1), by omega, a1, a2, a3, rfl, b1, b2, b3, b4, b5, b6⟩, fun x H3 y => ?_⟩
    obtain ⟨sm, rx⟩ := (Y.go H2 i xs[i] kz (List.getElem?_eq_getElem hlt)).2 x H3 y
    have rx := rx (fun a => O a ∨ a = D0) hO1 (Same.keeps s2)
    replace s2 := s2.trans sm
    replace h2 := sm _ _ h2
    replace r2 := r2.same sm
    rw [drop_at hlt] at c2
    obtain ⟨es2, c3, c4⟩ := bind_some (show (g (wipeD es (own.map (·.2))) xs[i]).bind _ = some ys2 from c2)
    obtain ⟨bt, c5, c6⟩ := bind_some c4
    have s02 : Same H H3 := s1.trans s2
    have F3 : Fr X.K X.w (fun a => O a ∨ a = D0) O (wipeD es (own.map (·.2))) (wipe σ (own.map (·.2))) H3 := (((F.same s1).wipe).more (Same.refl H1) hO1 (fun _ z => .inl z) fun _ z _ => z).same s2
    refine ⟨fun a => O a ∨ a = D0, O, wipeD es (own.map (·.2)), xs[i], es2, okO_grow (hO.same s02) h2, F3, rx, c3, fun σ2 H4 s4 l4 k4 F4 => ⟨?_, ?_⟩⟩
    · exact wipe_eq (by rw [l4, wipe_length]) fun j hj => by rw [k4 j hj, wipe_get hj]
    · refine ⟨_, O, es2, bt, okO_grow ((hO.same s02).same s4) (s4 _ _ h2), F4, c5, fun H5 s5 => ?_⟩
      cases bt with
      | false =>
        simp only [Bool.false_eq_true, if_false]
        exact ⟨ys1, ys2, vs, hlt, (s2.trans s4).trans s5, c6, ey, (s4.trans s5) _ _ h2, r2.same (s4.trans s5)⟩
      | true =>
        simp only [if_true]
        obtain ⟨yv, c7, c8⟩ := bind_some c6
        obtain ⟨ys3, c9, c10⟩ := bind_some c8
        cases c10
        refine ⟨_, O, es2, yv, okO_grow (((hO.same s02).same s4).same s5) ((s4.trans s5) _ _ h2), F4.same s5, c7, fun H6 v s6 r6 => ?_⟩
        have s36 : Same H3 H6 := (s4.trans s5).trans s6
        have h6 : H6 D0 = some (.lst vs) := s36 _ _ h2
        have r6' : RoAll X.K X.w (fun a => O a ∨ a = D0) H6 vs ys1 := r2.same s36
        refine ⟨vs, h6, ?_, ys1 ++ [yv], ys3, vs ++ [v], hlt, grow_same hD (s2.trans s36), c9, by rw [ey]; simp, upd_same, grow_all h6 r6' r6.no⟩
        have : ys.length = ys1.length + (ys3.length + 1) := by rw [ey]; simp
        rw [r2.length]; omega
  · have hi' : i = xs.length := by omega
    subst hi'
    refine .inl ⟨Y.stop H2 kz, ?_⟩
    rw [List.drop_length] at c2
    cases c2
    refine q H2 D0 vs ys (s1.trans s2) (s1.free hD) h2 rfl ?_
    rw [ey, List.append_nil]
    exact r2

/-! ### two clauses -/
variable {tg1 it1 : Expr} {ifs1 : List Expr} {fi1 : List Sl → Option (List D)} {g1 : List Sl → D → Option (List Sl)} {t1 : List Sl → Option Bool} {vs1 : List Nat}
theorem sf_comp1 (hc : X.calm = true) (hN : X.N.Nodup) (hi : SI X true tg it fi) (ok : BlkOk X.N X.env.scope scope own)
    (hg : ∀ s H C cl fp, SG (blk X scope s H C cl fp) (own.map (·.2)) tg g) (ht : ∀ s H C cl fp, PTs (blk X scope s H C cl fp) ifs (tT X.K X.w t)) (he : ∀ s H C cl fp, SE (blk X scope s H C cl fp) false elt f)
    (hs : ∀ x, foldedSetIterable it X.env x = pure x) :
    SF X (.ListComp elt [⟨tg, it, ifs, 0⟩] scope pos) fun σ => (fi σ).bind fun xs => lim (comp1 (g (wipeD σ (own.map (·.2)))) t f xs) :=
  (pe_lc (g := tG X.K X.w (own.map (·.2)) g) (tt := tT X.K X.w t) (te := tE X.K X.w false f) hc hN hi ok hg ht he hs).imp fun σ H Q h => comp1_read h
theorem comp2_read {σ : L2.St} {H : Hp} {Q : VK} (h : tF X.K X.w (fun σ => (fi σ).bind fun xs => lim (comp2 (g (wipeD σ (own.map (·.2)))) fi1 (fun σ' zs => comp1 (g1 (wipeD σ' vs1)) t1 f zs) xs)) σ H Q) :
    tLc2 (tI X.K X.w true fi) (tG X.K X.w (own.map (·.2)) g) tYes (tI X.K X.w false fi1) (tG X.K X.w vs1 g1) (tT X.K X.w t1) (tE X.K X.w false f) (own.map (·.2)) vs1 σ H Q := by
  obtain ⟨O, Ow, es, d, hO, F, e, q⟩ := h
  obtain ⟨xs, e1, e2⟩ := bind_some e
  obtain ⟨ys, e3, hl, rfl⟩ := lim_some e2
  have hf := few_line
  refine ⟨O, Ow, es, xs, hO, F, e1, fun J H1 s1 Y D0 hD => ?_⟩
  have hO1 : ∀ a, (O a ∨ a = D0) → O a ∨ H1 a = none := fun a z => z.imp id fun z => by rw [z]; exact hD
  refine ⟨fun i m H2 => ∃ ys1 ys2 vs, m = xs.length - i ∧ i ≤ xs.length ∧ Same H1 H2 ∧ comp2 (g (wipeD es (own.map (·.2)))) fi1 (fun σ' zs => comp1 (g1 (wipeD σ' vs1)) t1 f zs) (xs.drop i) = some ys2 ∧ ys = ys1 ++ ys2 ∧ H2 D0 = some (.lst vs) ∧ RoAll X.K X.w (fun a => O a ∨ a = D0) H2 vs ys1, ⟨_, [], ys, [], rfl, Nat.zero_le _, same_upd hD, e3, rfl, upd_same, .nil⟩, ?_⟩
  rintro i m H2 ⟨ys1, ys2, vs, rfl, hi, s2, c2, ey, h2, r2⟩
  have kz : Keeps (fun a => true = false ∧ O a) H1 H2 := Same.keeps s2
  by_cases hlt : i < xs.length
  · refine .inr ⟨(Y.go H2 i xs[i] kz (List.getElem?_eq_getElem hlt)).1, fun H3 => ∃ ys1 ys2 vs, i + 1 ≤ xs.length ∧ Same H1 H3 ∧ comp2 (g (wipeD es (own.map (·.2)))) fi1 (fun σ' zs => comp1 (g1 (wipeD σ' vs1)) t1 f zs) (xs.drop (i + 1)) = some ys2 ∧ ys = ys1 ++ ys2 ∧ H3 D0 = some (.lst vs) ∧ RoAll X.K X.w (fun a => O a ∨ a = D0) H3 vs ys1,
      fun H3 ⟨a1, a2, a3, b1, b2, b3, b4, b5, b6⟩ => ⟨xs.length - (i + 1), by omega, a1, a2, a3, rfl, b1, b2, b3, b4, b5, b6⟩, fun x H3 y => ?_⟩
    obtain ⟨sm, rx⟩ := (Y.go H2 i xs[i] kz (List.getElem?_eq_getElem hlt)).2 x H3 y
    have rx := rx (fun a => O a ∨ a = D0) hO1 (Same.keeps s2)
    replace s2 := s2.trans sm
    replace h2 := sm _ _ h2
    replace r2 := r2.same sm
    rw [drop_at hlt] at c2
    obtain ⟨es2, c3, c4⟩ := bind_some (show (g (wipeD es (own.map (·.2))) xs[i]).bind _ = some ys2 from c2)
    obtain ⟨zs, c5, c6⟩ := bind_some c4
    obtain ⟨yi, c7, c8⟩ := bind_some c6
    obtain ⟨yr, c9, c10⟩ := bind_some c8
    cases c10
    have s02 : Same H H3 := s1.trans s2
    have F3 : Fr X.K X.w (fun a => O a ∨ a = D0) O (wipeD es (own.map (·.2))) (wipe σ (own.map (·.2))) H3 := (((F.same s1).wipe).more (Same.refl H1) hO1 (fun _ z => .inl z) fun _ z _ => z).same s2
    refine ⟨fun a => O a ∨ a = D0, O, wipeD es (own.map (·.2)), xs[i], es2, okO_grow (hO.same s02) h2, F3, rx, c3, fun σ2 H4 s4 l4 k4 F4 => ⟨?_, ?_⟩⟩
    · exact wipe_eq (by rw [l4, wipe_length]) fun j hj => by rw [k4 j hj, wipe_get hj]
    show tI X.K X.w false fi1 σ2 H4 _
    refine ⟨_, O, es2, zs, okO_grow ((hO.same s02).same s4) (s4 _ _ h2), F4, c5, fun J1 H5 s5 Y1 => ?_⟩
    have s35 : Same H3 H5 := s4.trans s5
    have s15 : Same H1 H5 := s2.trans s35
    -- the second clause's turns: H6 is H5 but for what the list has grown
    refine ⟨fun j k H6 => ∃ ya yb vs, k = zs.length - j ∧ j ≤ zs.length ∧ Same H1 H6 ∧ (∀ b o, b ≠ D0 → H5 b = some o → H6 b = some o) ∧ comp1 (g1 (wipeD es2 vs1)) t1 f (zs.drop j) = some yb ∧ yi = ya ++ yb ∧ H6 D0 = some (.lst vs) ∧ RoAll X.K X.w (fun a => O a ∨ a = D0) H6 vs (ys1 ++ ya),
      ⟨_, [], yi, vs, rfl, Nat.zero_le _, s15, fun b o _ z => z, c7, rfl, s35 _ _ h2, by rw [List.append_nil]; exact r2.same s35⟩, ?_⟩
    rintro j k H6 ⟨ya, yb, ws, rfl, hj, t1', t2', d2, ez, g2, q2⟩
    have nD : ∀ a, O a → a ≠ D0 := fun a z n => hO.none (s1.free hD) (n ▸ z)
    have kz1 : Keeps (fun a => O a ∨ a = D0) H5 H6 := ⟨fun a xs e n => t2' a _ (fun z => n (.inr z)) e, fun a xs e => t2' a _ (fun z => by rw [z, s35 _ _ h2] at e; cases e) e, fun a o u e => t2' a _ (fun z => by rw [z, s35 _ _ h2] at e; cases e) e, fun a φ e => t2' a _ (fun z => by rw [z, s35 _ _ h2] at e; cases e) e, fun a fs e => t2' a _ (fun z => by rw [z, s35 _ _ h2] at e; cases e) e⟩
    have F6 : Fr X.K X.w (fun a => O a ∨ a = D0) O es2 σ2 H6 := (F4.same s5).keeps kz1 fun a xs z e => t2' a _ (nD a z) e
    have o6 : OkO (fun a => O a ∨ a = D0) H6 := okO_grow (hO.same (s1.trans t1')) g2
    by_cases hjl : j < zs.length
    · have hyl : comp1 (g1 (wipeD es2 vs1)) t1 f (zs[j] :: zs.drop (j + 1)) = some yb := by rw [← drop_at hjl]; exact d2
      have kz2 : Keeps (fun a => false = false ∧ (O a ∨ a = D0)) H5 H6 := ⟨fun a xs e n => kz1.l a xs e fun z => n ⟨rfl, z⟩, kz1.t, kz1.f, kz1.e, kz1.x⟩
      refine .inr ⟨(Y1.go H6 j zs[j] kz2 (List.getElem?_eq_getElem hjl)).1, fun H7 => ∃ ya yb vs, j + 1 ≤ zs.length ∧ Same H1 H7 ∧ (∀ b o, b ≠ D0 → H5 b = some o → H7 b = some o) ∧ comp1 (g1 (wipeD es2 vs1)) t1 f (zs.drop (j + 1)) = some yb ∧ yi = ya ++ yb ∧ H7 D0 = some (.lst vs) ∧ RoAll X.K X.w (fun a => O a ∨ a = D0) H7 vs (ys1 ++ ya),
        fun H7 ⟨a1, a2, a3, b1, b2, b3, b4, b5, b6⟩ => ⟨zs.length - (j + 1), by omega, a1, a2, a3, rfl, b1, b2, b3, b4, b5, b6⟩, fun x1 H7 y1 => ?_⟩
      obtain ⟨sm1, rx1⟩ := (Y1.go H6 j zs[j] kz2 (List.getElem?_eq_getElem hjl)).2 x1 H7 y1
      have rx1 := rx1 (fun a => O a ∨ a = D0) (fun _ z => .inl z) kz1
      replace t1' := t1'.trans sm1
      replace t2' : ∀ b o, b ≠ D0 → H5 b = some o → H7 b = some o := fun b o n e => sm1 b o (t2' b o n e)
      replace g2 := sm1 _ _ g2
      replace q2 := q2.same sm1
      replace F6 := F6.same sm1
      replace o6 := o6.same sm1
      obtain ⟨es3, c11, c12⟩ := bind_some (show (g1 (wipeD es2 vs1) zs[j]).bind _ = some yb from hyl)
      obtain ⟨bt, c13, c14⟩ := bind_some c12
      have tail : ∀ H8, Same H7 H8 → (∀ b o, b ≠ D0 → H5 b = some o → H8 b = some o) := fun H8 s b o n e => s b o (t2' b o n e)
      refine ⟨_, O, wipeD es2 vs1, zs[j], es3, o6, F6.wipe, rx1, c11, fun σ3 H8 s8 l8 k8 F8 => ⟨?_, ?_⟩⟩
      · exact wipe_eq (by rw [l8, wipe_length]) fun j hj => by rw [k8 j hj, wipe_get hj]
      · refine ⟨_, O, es3, bt, o6.same s8, F8, c13, fun H9 s9 => ?_⟩
        cases bt with
        | false =>
          simp only [Bool.false_eq_true, if_false]
          exact ⟨ya, yb, ws, hjl, (t1'.trans s8).trans s9, tail H9 (s8.trans s9), c14, ez, (s8.trans s9) _ _ g2, q2.same (s8.trans s9)⟩
        | true =>
          simp only [if_true]
          obtain ⟨yv, c15, c16⟩ := bind_some c14
          obtain ⟨y3, c17, c18⟩ := bind_some c16
          cases c18
          refine ⟨_, O, es3, yv, (o6.same s8).same s9, F8.same s9, c15, fun H10 v s10 r10 => ?_⟩
          have s710 : Same H7 H10 := (s8.trans s9).trans s10
          have h10 : H10 D0 = some (.lst ws) := s710 _ _ g2
          have r10' : RoAll X.K X.w (fun a => O a ∨ a = D0) H10 ws (ys1 ++ ya) := q2.same s710
          refine ⟨ws, h10, ?_, ya ++ [yv], y3, ws ++ [v], hjl, grow_same hD (t1'.trans s710), fun b o n e => ?_, c17, by rw [ez]; simp, upd_same, ?_⟩
          · have e1 : ys.length = ys1.length + (ya.length + (y3.length + 1) + yr.length) := by rw [ey, ez]; simp; omega
            rw [q2.length, List.length_append]; omega
          · rw [upd_ne n]; exact tail H10 s710 b o n e
          · rw [← List.append_assoc]; exact grow_all h10 r10' r10.no
    · have hj' : j = zs.length := by omega
      subst hj'
      have kz2 : Keeps (fun a => false = false ∧ (O a ∨ a = D0)) H5 H6 := ⟨fun a xs e n => kz1.l a xs e fun z => n ⟨rfl, z⟩, kz1.t, kz1.f, kz1.e, kz1.x⟩
      refine .inl ⟨Y1.stop H6 kz2, ?_⟩
      rw [List.drop_length] at d2
      cases d2
      refine ⟨ys1 ++ ya, yr, ws, hlt, t1', c9, ?_, g2, q2⟩
      rw [ey, ez, List.append_nil, List.append_assoc]
  · have hi' : i = xs.length := by omega
    subst hi'
    refine .inl ⟨Y.stop H2 kz, ?_⟩
    rw [List.drop_length] at c2
    cases c2
    refine q H2 D0 vs ys (s1.trans s2) (s1.free hD) h2 rfl ?_
    rw [ey, List.append_nil]
    exact r2
theorem sf_comp2 (hc : X.calm = true) (hN : X.N.Nodup) (hi : SI X true tg it fi) (ok : BlkOk X.N X.env.scope scope own) (hv : ∀ i ∈ vs1, i ∈ own.map (·.2))
    (hg : ∀ s H C cl fp, SG (blk X scope s H C cl fp) (own.map (·.2)) tg g)
    (hi1 : ∀ s H C cl fp, SI (blk X scope s H C cl fp) false tg1 it1 fi1) (hg1 : ∀ s H C cl fp, SG (blk X scope s H C cl fp) vs1 tg1 g1) (ht1 : ∀ s H C cl fp, PTs (blk X scope s H C cl fp) ifs1 (tT X.K X.w t1))
    (he : ∀ s H C cl fp, SE (blk X scope s H C cl fp) false elt f) (hs : ∀ x, foldedSetIterable it X.env x = pure x) (hs1 : ∀ env x, foldedSetIterable it1 env x = pure x) :
    SF X (.ListComp elt [⟨tg, it, [], 0⟩, ⟨tg1, it1, ifs1, 0⟩] scope pos) fun σ => (fi σ).bind fun xs => lim (comp2 (g (wipeD σ (own.map (·.2)))) fi1 (fun σ' zs => comp1 (g1 (wipeD σ' vs1)) t1 f zs) xs) :=
  (pe_lc2 (g := tG X.K X.w (own.map (·.2)) g) (wi1 := tI X.K X.w false fi1) (g1 := tG X.K X.w vs1 g1) (tt1 := tT X.K X.w t1) (te := tE X.K X.w false f) hc hN hi ok hv hg (fun _ _ _ _ _ => pts_nil) hi1 hg1 ht1 he hs hs1).imp fun σ H Q h => comp2_read h
end
end EV

namespace EV
open PySem PySem.Spec PyProof.Rows L2

/-! ### what is held against the text -/
def locB (names : List (Str × NameKind)) (x : Str) : Bool := match names.lookup x with
  | some .local => true
  | some .cell => true
  | some .free => true
  | _ => false
def glB (names : List (Str × NameKind)) (x : Str) : Bool := match names.lookup x with
  | some .globalImplicit => true
  | _ => false
def storeB (names : List (Str × NameKind)) (fn : Str → Bool) (x : Str) : Bool := match names.lookup x with
  | some .local => true
  | some .cell => fn x
  | _ => false
def ckTg (names : List (Str × NameKind)) (fn : Str → Bool) : Expr → Bool
  | .Name x _ => storeB names fn x
  | .Tuple es _ _ => areNames es && es.all fun e => match e with
    | .Name x _ => storeB names fn x
    | _ => false
  | _ => false
def isSet : Expr → Bool
  | .Set _ _ _ => true
  | _ => false
def isTup : Expr → Bool
  | .Tuple _ _ _ => true
  | _ => false
/-- what a field is asked of -/
def atB : Expr → Bool
  | .Name _ _ => true
  | .Subscript _ _ _ => true
  | _ => false
def unStar : Expr → Expr
  | .Starred e _ => e
  | e => e
def isSlice : Expr → Bool
  | .Slice _ _ _ _ => true
  | _ => false
def kindB : NameKind → NameKind → Bool := fun a b => decide (a = b)
def blkB (N : List Str) (names : List (Str × NameKind)) (scope : Scope) : Bool :=
  decide (scope.kind = .function) && scope.names.all fun y => decide (scope.names.lookup y.1 = some y.2) && (match y.2 with
    | .free => decide (names.lookup y.1 = some .cell) || decide (names.lookup y.1 = some .free)
    | _ => true)
def okX (x : Str) : Bool := !(x == ("__debug__" : Str)) && !(x == ("__classdict__" : Str))
def subB (a b : List Nat) : Bool := a.all fun i => b.contains i
def ckE (N fns : List Str) : Nat → Scope → (Str → Bool) → Expr → Bool
  | 0, _, _, _ => false
  | m + 1, sc, fn, e =>
    let ckI := fun (sc : Scope) (fn : Str → Bool) (tg e : Expr) => !isSet e && (match e with
      | .Call (.Name g _) as [] _ => cond (decide (g = "range")) (glB sc.names g && match as with
        | [a] => !isStar a && ckE N fns m sc fn a
        | [a, a'] => (!isStar a && ckE N fns m sc fn a) && (!isStar a' && ckE N fns m sc fn a')
        | _ => false) (cond (decide (g = "zip")) (glB sc.names g && (isTup tg && match as with
        | [a, a'] => (!isStar a && ckE N fns m sc fn a) && (!isStar a' && ckE N fns m sc fn a')
        | _ => false)) (ckE N fns m sc fn e))
      | e => ckE N fns m sc fn e)
    match e with
    | .Constant k _ _ => (match k with
      | .str s => PyData.canLay0 (.str s)
      | _ => true)
    | .Name x _ => okX x && (match N.idxOf? x with
      | some _ => locB sc.names x
      | none => glB sc.names x)
    | .Tuple es _ _ => es.all fun e => ckE N fns m sc fn (unStar e)
    | .List es _ => es.all fun e => ckE N fns m sc fn (unStar e)
    | .BinOp l _ r _ => ckE N fns m sc fn l && ckE N fns m sc fn r
    | .UnaryOp _ x _ => ckE N fns m sc fn x
    | .BoolOp _ vs _ => vs.all fun e => ckE N fns m sc fn e
    | .IfExp t x y _ => ckE N fns m sc fn t && (ckE N fns m sc fn x && ckE N fns m sc fn y)
    | .Compare l [_] [r] _ => !isSet r && (ckE N fns m sc fn l && ckE N fns m sc fn r)
    | .Compare l [_, _] [t, r] _ => (!isSet t && !isSet r) && (ckE N fns m sc fn l && (ckE N fns m sc fn t && ckE N fns m sc fn r))
    | .Subscript x (.Slice lo hi none _) _ => ckE N fns m sc fn x && (lo.all (fun e => ckE N fns m sc fn e) && hi.all fun e => ckE N fns m sc fn e)
    | .Subscript x i _ => !isSlice i && (ckE N fns m sc fn x && ckE N fns m sc fn i)
    | .Attribute e _ _ => atB e && ckE N fns m sc fn e
    | .Call (.Attribute e m' ap) [x, y] [] cp => decide (m' = "get") && ((!isStar x && !isStar y) && ((ap.endLine == cp.line) && ((ckE N fns m sc fn x && ckE N fns m sc fn y) && (match e with
        | .Dict _ _ _ => true
        | e => atB e && ckE N fns m sc fn e))))
    | .Call (.Name f _) as [] _ => match nestA f as with
      | some (.sset a) => glB sc.names f && (glB sc.names "set" && (!isStar a && ckE N fns m sc fn a))
      | some (.lset a) => glB sc.names f && (glB sc.names "set" && (!isStar a && ckE N fns m sc fn a))
      | some (.zip3 es) => glB sc.names f && (glB sc.names "zip" && es.all fun a => !isStar a && ckE N fns m sc fn a)
      | none => glB sc.names f && (okX f && ((!as.isEmpty && as.all fun a => !isStar a) && cond (decide (f = "isinstance")) (match as with
        | [x, .Name t _] => (glB sc.names t && okX t) && ckE N fns m sc fn x
        | _ => false) ((as.all fun a => ckE N fns m sc fn a) && ((bFind f).isSome || fns.contains f))))
    | .ListComp elt [⟨t, it, ifs, 0⟩] scope _ =>
      (ckI sc fn t it && blkB N sc.names scope) && ((ckTg (relS scope sc).names (fun x => scope.names.lookup x == some .cell) t && subB (tgIx N t) ((ownOf N scope.names).map (·.2))) &&
        ((match ifs with
          | [] => true
          | [c] => ckE N fns m (relS scope sc) (fun x => scope.names.lookup x == some .cell) c
          | _ => false) && ckE N fns m (relS scope sc) (fun x => scope.names.lookup x == some .cell) elt))
    | .ListComp elt [⟨t, it, [], 0⟩, ⟨t', it', ifs', 0⟩] scope _ =>
      (ckI sc fn t it && blkB N sc.names scope) && ((ckTg (relS scope sc).names (fun x => scope.names.lookup x == some .cell) t && subB (tgIx N t) ((ownOf N scope.names).map (·.2))) &&
        ((ckI (relS scope sc) (fun x => scope.names.lookup x == some .cell) t' it' && (ckTg (relS scope sc).names (fun x => scope.names.lookup x == some .cell) t' && subB (tgIx N t') ((ownOf N scope.names).map (·.2)))) && ((match ifs' with
          | [] => true
          | [c] => ckE N fns m (relS scope sc) (fun x => scope.names.lookup x == some .cell) c
          | _ => false) && ckE N fns m (relS scope sc) (fun x => scope.names.lookup x == some .cell) elt)))
    | _ => false

structure Good (c : Cfg) (k : Nat) (fns : List Str) (X : Cx) (sc : Scope) (fn : Str → Bool) : Prop where
  nN : X.N = c.N
  nd : X.N.Nodup
  sc : X.env.scope = sc
  fn : ∀ x, fn x = true → X.fn x = true
  calm : X.calm = true
  room : Room k X.A
  gd : X.A.guards = some []
  b : ∀ bi, X.mg (bName bi) = none
  t : ∀ t, X.mg (tName t) = none
  i : X.mg "isinstance" = none
  r : X.mg "range" = none
  z : X.mg "zip" = none
  st : X.mg "set" = none
  glob : ∀ x, GOk X x (c.G.g x)
  isi : IsiOk X.K X.mg c.G.i
  att : AttOk X.K c.G.a
  mkr : ∀ f, c.G.m f = true → ExcAt X.prog X.K X.mg f
  kp : ∃ j, k = j + 1
  call : ∀ f ∈ fns, c.G.m f = true ∨ CallOk X k f (c.C f)

section
variable {c : Cfg} {k : Nat} {fns : List Str} {X : Cx} {sc : Scope} {fn : Str → Bool}
theorem Good.hu (g : Good c k fns X sc fn) : X.A.units + 65 < cLine := by have := g.room.un; omega
theorem gl_of (g : Good c k fns X sc fn) {x : Str} (h : glB sc.names x = true) : Gl X x := by
  rw [← g.sc] at h
  unfold glB at h
  show X.env.scope.names.lookup x = some .globalImplicit
  split at h
  · rename_i e; exact e
  · cases h
theorem vis_of (g : Good c k fns X sc fn) {x : Str} (h : locB sc.names x = true) : Vis X.env.scope x := by
  rw [← g.sc] at h
  unfold locB at h
  split at h
  · rename_i e; exact .inl e
  · rename_i e; exact .inr (.inl e)
  · rename_i e; exact .inr (.inr e)
  · cases h
theorem store_of (g : Good c k fns X sc fn) {x : Str} (h : storeB sc.names fn x = true) : StoreOk X x := by
  rw [← g.sc] at h
  unfold storeB at h
  split at h
  · rename_i e; exact ⟨.inl e, .inr e⟩
  · rename_i e; exact ⟨.inr e, .inl (g.fn x h)⟩
  · cases h
theorem okX_of {x : Str} (h : okX x = true) : (x == ("__debug__" : Str)) = false ∧ (x == ("__classdict__" : Str)) = false := by
  unfold okX at h
  rw [Bool.and_eq_true] at h
  exact ⟨by simpa using h.1, by simpa using h.2⟩
theorem tg_of (g : Good c k fns X sc fn) {t : Expr} (h : ckTg sc.names fn t = true) : SG X (tgIx c.N t) t fun es d => asg c.N es t d := by
  rw [← g.nN]
  refine sg_asg g.nd g.calm ?_
  cases t with
  | Name x p => exact .inl ⟨x, p, rfl, store_of g h⟩
  | Tuple es k p =>
    have h : (areNames es && es.all fun e => match e with | .Name x _ => storeB sc.names fn x | _ => false) = true := h
    rw [Bool.and_eq_true, List.all_eq_true] at h
    exact .inr ⟨es, k, p, rfl, h.1, fun x q hx => store_of g (h.2 _ hx)⟩
  | _ => cases h
theorem sub_of {a b : List Nat} (h : subB a b = true) : ∀ j ∈ a, j ∈ b := fun j hj => by
  have := List.all_eq_true.mp h j hj
  simpa using this
theorem own_ix {N : List Str} : ∀ {names : List (Str × NameKind)}, ∀ p ∈ ownOf N names, N[p.2]? = some p.1
  | (x, k) :: r, p, hp => by
    cases e : N.idxOf? x with
    | none => cases k <;> simp only [ownOf, e] at hp <;> exact own_ix p hp
    | some i =>
      cases k with
      | free => simp only [ownOf] at hp; exact own_ix p hp
      | _ =>
        simp only [ownOf, e, List.mem_cons] at hp
        rcases hp with rfl | hp
        · exact ix_get e
        · exact own_ix p hp
theorem own_mem {N : List Str} : ∀ {names : List (Str × NameKind)}, ∀ y ∈ names, y.2 ≠ .free → y.1 ∈ (ownOf N names).map (·.1) ∨ y.1 ∉ N
  | (x, k) :: r, y, hy, hf => by
    have tail : y ∈ r → y.1 ∈ (ownOf N ((x, k) :: r)).map (·.1) ∨ y.1 ∉ N := fun h => by
      rcases own_mem (N := N) y h hf with z | z
      · left
        cases e : N.idxOf? x <;> cases k <;> simp only [ownOf, e, List.map_cons, List.mem_cons] <;> first | exact z | exact .inr z
      · exact .inr z
    rcases List.mem_cons.mp hy with rfl | hy
    · cases e : N.idxOf? x with
      | none => right; intro hm; rw [List.idxOf?_eq_none_iff] at e; exact e hm
      | some i =>
        left
        cases k with
        | free => exact absurd rfl hf
        | _ => simp [ownOf, e]
    · exact tail hy
theorem blk_of (g : Good c k fns X sc fn) {scope : Scope} (h : blkB c.N sc.names scope = true) : BlkOk X.N X.env.scope scope (ownOf c.N scope.names) := by
  unfold blkB at h
  rw [Bool.and_eq_true, List.all_eq_true] at h
  rw [g.nN, g.sc]
  refine ⟨of_decide_eq_true h.1, fun y hy => ?_, own_ix, fun y hy e => ?_, fun y hy e => own_mem y hy ?_⟩
  · have := h.2 y hy
    rw [Bool.and_eq_true] at this
    exact of_decide_eq_true this.1
  · have := h.2 y hy
    rw [Bool.and_eq_true, e] at this
    rcases Bool.or_eq_true_iff.mp this.2 with z | z
    · exact .inl (of_decide_eq_true z)
    · exact .inr (of_decide_eq_true z)
  · rintro z
    rcases e with e | e <;> rw [z] at e <;> cases e
theorem good_blk (g : Good c k fns X sc fn) (scope : Scope) (s : Shared) (H : Hp) (C : Addr) (cl : List (Str × Addr)) (fp : List Addr) : Good c k fns (blk X scope s H C cl fp) (relS scope sc) fun x => scope.names.lookup x == some .cell :=
  ⟨g.nN, g.nd, by show relS scope X.env.scope = _; rw [g.sc], fun x h => h, g.calm, g.room, g.gd, g.b, g.t, g.i, g.r, g.z, g.st, g.glob, g.isi, g.att, g.mkr, g.kp, fun f hf => (g.call f hf).imp id fun q => ⟨q.ex⟩⟩
end
end EV

namespace EV
open PySem PySem.Spec PyProof.Rows L2
section
variable {c : Cfg} {k : Nat} {fns : List Str} {X : Cx} {b : Bool} {e : Expr}
theorem se_none : SE X b e fun _ => none := ⟨fun _ _ _ _ _ _ ⟨O, Ow, es, d, hO, F, e, q⟩ => by cases e⟩
theorem st_none : ST X e fun _ => none := ⟨fun _ _ _ _ _ _ ⟨O, Ow, es, d, hO, F, e, q⟩ => by cases e⟩
theorem sw_none : SW X e fun _ => none := ⟨fun _ _ _ _ _ _ _ ⟨O, Ow, es, d, hO, F, e, q⟩ => by cases e⟩
theorem set_no {e : Expr} (h : isSet e = false) : ∀ a k p, e ≠ .Set a k p := fun a k p z => by subst z; cases h
theorem slice_no {e : Expr} (h : isSlice e = false) : ∀ a b c d, e ≠ .Slice a b c d := fun _ _ _ _ z => by subst z; cases h
theorem fold_set {e : Expr} (h : isSet e = false) (env : Env) (x : Value) : foldedSetIterable e env x = pure x := by
  cases e <;> first | rfl | cases h
theorem marks2 {o o' : CmpOp} {a b : Expr} (h : isSet b = false) : lastMarks [o, o'] [a, b] = false := by
  show behindInMarks o' b = false
  exact mark_of (set_no h)
/-- what holds of all expressions at one depth -/
structure Snd (c : Cfg) (k : Nat) (fns : List Str) (n : Nat) : Prop where
  e : ∀ (m : Nat) (X : Cx) (sc : Scope) (fn : Str → Bool), Good c k fns X sc fn → ∀ e, ckE c.N fns m sc fn e = true → (∀ b, SE X b e fun σ => ev c n b σ e) ∧ (ST X e fun σ => tst c n σ e) ∧ (isFresh e = true → SF X e fun σ => ev c n false σ e)
  a : ∀ (m : Nat) (X : Cx) (sc : Scope) (fn : Str → Bool), Good c k fns X sc fn → ∀ vs pos, (∀ e ∈ vs, ckE c.N fns m sc fn e = true) → (∀ b, SE X b (.BoolOp .And vs pos) fun σ => andV c n b σ vs) ∧ (∀ b, SE X b (.BoolOp .Or vs pos) fun σ => orV c n b σ vs) ∧
    (SW X (.BoolOp .And vs pos) fun σ => andT c n σ vs) ∧ (SW X (.BoolOp .Or vs pos) fun σ => orT c n σ vs)
  o : ∀ (m : Nat) (X : Cx) (sc : Scope) (fn : Str → Bool), Good c k fns X sc fn → ∀ lo : Option Expr, (∀ e, lo = some e → ckE c.N fns m sc fn e = true) → SO X lo fun σ => part c n σ lo
theorem snd_zero : Snd c k fns 0 := by
  refine ⟨fun m X sc fn g e h => ⟨fun b => se_none, ?_, fun _ => ⟨fun _ _ _ _ _ _ ⟨O, Ow, es, d, hO, F, e, q⟩ => by cases e⟩⟩, fun m X sc fn g vs pos h => ⟨fun b => se_none, fun b => se_none, ?_, ?_⟩, fun m X sc fn g lo h => ⟨fun _ _ _ _ _ _ ⟨O, Ow, es, d, hO, F, e, q⟩ => by cases e⟩⟩
  · exact st_none.eqf fun es d h => by cases h
  · exact sw_none.imp fun σ H Q ⟨O, Ow, es, d, hO, F, e, q⟩ => by cases e
  · exact sw_none.imp fun σ H Q ⟨O, Ow, es, d, hO, F, e, q⟩ => by cases e
end
section
variable {c : Cfg} {k : Nat} {fns : List Str} {n m : Nat} {X : Cx} {sc : Scope} {fn : Str → Bool}
/-- displays' items, arguments -/
theorem sa_args (S : Snd c k fns n) (g : Good c k fns X sc fn) (b0 : Bool) : ∀ es : List Expr, (∀ e ∈ es, ckE c.N fns m sc fn (unStar e) = true) → SA X b0 es fun σ => args (fun b e => ev c n (b || b0) σ e) es
  | [], _ => sa_nil
  | e :: es, h => by
    have ih := sa_args S g b0 es fun e he => h e (List.mem_cons_of_mem _ he)
    have h0 := h e List.mem_cons_self
    by_cases hs : isStar e = true
    · cases e with
      | Starred e' p => exact sa_star ((S.e m X sc fn g e' h0).1 true) ih
      | _ => cases hs
    · have hs : isStar e = false := by simpa using hs
      have hu : unStar e = e := by cases e <;> first | rfl | cases hs
      rw [hu] at h0
      refine (sa_cons (star_no hs) ((S.e m X sc fn g e h0).1 b0) ih).eqf fun σ ds hd => ?_
      cases e <;> first | exact hd | cases hs
def ckI (N fns : List Str) (m : Nat) (sc : Scope) (fn : Str → Bool) (tg e : Expr) : Bool := !isSet e && (match e with
      | .Call (.Name g _) as [] _ => cond (decide (g = "range")) (glB sc.names g && match as with
        | [a] => !isStar a && ckE N fns m sc fn a
        | [a, a'] => (!isStar a && ckE N fns m sc fn a) && (!isStar a' && ckE N fns m sc fn a')
        | _ => false) (cond (decide (g = "zip")) (glB sc.names g && (isTup tg && match as with
        | [a, a'] => (!isStar a && ckE N fns m sc fn a) && (!isStar a' && ckE N fns m sc fn a')
        | _ => false)) (ckE N fns m sc fn e))
      | e => ckE N fns m sc fn e)
theorem si_iter (S : Snd c k fns n) (g : Good c k fns X sc fn) {b : Bool} {tg it : Expr} (h : ckI c.N fns m sc fn tg it = true) : SI X b tg it fun σ => iter c.N (ev c n b σ) it := by
  unfold ckI at h
  rw [Bool.and_eq_true] at h
  obtain ⟨hset, h⟩ := h
  clear hset
  have base : ckE c.N fns m sc fn it = true → SI X b tg it fun σ => (ev c n b σ it).bind items := fun hc => si_seq ((S.e m X sc fn g it hc).1 b)
  unfold iter
  split
  · rename_i x p a q
    by_cases hr : x = "range"
    · subst hr
      simp only [decide_true, cond_true, Bool.and_eq_true] at h ⊢
      exact si_range1 rfl (gl_of g h.1) g.r (by simpa using h.2.1) ((S.e m X sc fn g a h.2.2).1 b)
    · simp only [decide_eq_false hr, cond_false] at h ⊢
      by_cases hz : x = "zip"
      · exfalso
        rw [decide_eq_true hz, cond_true, Bool.and_eq_true, Bool.and_eq_true] at h
        exact absurd h.2.2 (by simp)
      · rw [decide_eq_false hz, cond_false] at h
        exact base h
  · rename_i x p a a' q
    by_cases hr : x = "range"
    · subst hr
      simp only [decide_true, cond_true, Bool.and_eq_true] at h ⊢
      exact si_range2 rfl (gl_of g h.1) g.r (by simpa using h.2.1.1) (by simpa using h.2.2.1) ((S.e m X sc fn g a h.2.1.2).1 b) ((S.e m X sc fn g a' h.2.2.2).1 b)
    · by_cases hz : x = "zip"
      · subst hz
        simp only [decide_eq_false hr, decide_true, cond_false, cond_true, Bool.and_eq_true] at h ⊢
        obtain ⟨es, kk, tp, rfl⟩ : ∃ es kk tp, tg = .Tuple es kk tp := by
          have := h.2.1
          cases tg <;> first | exact ⟨_, _, _, rfl⟩ | cases this
        exact si_zip rfl (gl_of g h.1) g.z (by simpa using h.2.2.1.1) (by simpa using h.2.2.2.1) ((S.e m X sc fn g a h.2.2.1.2).1 b) ((S.e m X sc fn g a' h.2.2.2.2).1 b)
      · simp only [decide_eq_false hr, decide_eq_false hz, cond_false] at h ⊢
        exact base h
  · rename_i h1 h2
    split at h
    · rename_i x p as q
      by_cases hr : x = "range"
      · exfalso
        rw [decide_eq_true hr, cond_true, Bool.and_eq_true] at h
        match as, h1, h2, h with
        | [], _, _, h => exact absurd h.2 (by simp)
        | [a], h1, _, _ => exact h1 _ _ _ _ rfl
        | [a, a'], _, h2, _ => exact h2 _ _ _ _ _ rfl
        | a :: a' :: a'' :: r, _, _, h => exact absurd h.2 (by simp)
      · rw [decide_eq_false hr, cond_false] at h
        by_cases hz : x = "zip"
        · exfalso
          rw [decide_eq_true hz, cond_true, Bool.and_eq_true, Bool.and_eq_true] at h
          match as, h1, h2, h with
          | [], _, _, h => exact absurd h.2.2 (by simp)
          | [a], h1, _, _ => exact h1 _ _ _ _ rfl
          | [a, a'], _, h2, _ => exact h2 _ _ _ _ _ rfl
          | a :: a' :: a'' :: r, _, _, h => exact absurd h.2.2 (by simp)
        · rw [decide_eq_false hz, cond_false] at h
          exact base h
    · exact base h

theorem args_true (c : Cfg) (n : Nat) (σ : List Sl) : ∀ es : List Expr, (∀ e ∈ es, isStar e = false) → args (fun _ e => ev c n true σ e) es = args (fun b e => ev c n (b || true) σ e) es
  | [], _ => rfl
  | e :: es, h => by
    have h0 := h e List.mem_cons_self
    have ih := args_true c n σ es fun e he => h e (List.mem_cons_of_mem _ he)
    cases e <;> first | (cases h0; done) | (unfold args; rw [ih]; rfl)
theorem args_false (c : Cfg) (n : Nat) (σ : List Sl) : ∀ es : List Expr, (∀ e ∈ es, isStar e = false) → args (fun _ e => ev c n false σ e) es = args (fun b e => ev c n (b || false) σ e) es
  | [], _ => rfl
  | e :: es, h => by
    have h0 := h e List.mem_cons_self
    have ih := args_false c n σ es fun e he => h e (List.mem_cons_of_mem _ he)
    cases e <;> first | (cases h0; done) | (unfold args; rw [ih]; rfl)
theorem args_disp (c : Cfg) (n : Nat) (σ : List Sl) (es : List Expr) : args (fun b e => ev c n b σ e) es = args (fun b e => ev c n (b || false) σ e) es := by
  have : (fun (b : Bool) e => ev c n b σ e) = fun b e => ev c n (b || false) σ e := by funext b e; cases b <;> rfl
  rw [← this]
theorem pts_of (S : Snd c k fns n) (g : Good c k fns X sc fn) {ifs : List Expr} (h : (match ifs with
          | [] => true
          | [c'] => ckE c.N fns m sc fn c'
          | _ => false) = true) : PTs X ifs (tT X.K X.w fun σ => tests (tst c n σ) ifs) := by
  match ifs, h with
  | [], _ => exact ⟨fun pins s σ H Q I ⟨O, Ow, es, d, hO, F, e, q⟩ => (pts_nil (X := X)).run pins s σ H Q I (by cases e; exact q H (Same.refl H))⟩
  | [c'], h =>
    refine ⟨fun pins s σ H Q I ⟨O, Ow, es, d, hO, F, e, q⟩ => (pts_one ((S.e m X sc fn g c' h).2.1)).run pins s σ H Q I ?_⟩
    obtain ⟨b, e1, e2⟩ := bind_some (show (tst c n es c').bind (fun b => cond b (tests (tst c n es) []) (some false)) = some d from e)
    refine ⟨O, Ow, es, d, hO, F, ?_, q⟩
    show tst c n es c' = some d
    cases b with
    | true => rw [e1]; exact e2
    | false => rw [e1]; exact e2
theorem se_of_sf {e : Expr} {f : List Sl → Option D} (h : SF X e f) {f' : Bool → List Sl → Option D} (hf : ∀ b σ, f' b σ = f σ) (b : Bool) : SE X b e (f' b) := by
  have : f' b = f := funext (hf b)
  rw [this]
  exact h.se
theorem SF.eqf {X : Cx} {e : Expr} {f f' : List Sl → Option D} (h : SF X e f) (hf : ∀ σ, f' σ = f σ) : SF X e f' := by
  rw [funext hf]
  exact h
theorem ev_lc1 (c : Cfg) (n : Nat) (b : Bool) (σ : List Sl) (elt t it : Expr) (ifs : List Expr) (sc : Scope) (pos : Pos) : ev c (n + 1) b σ (.ListComp elt [⟨t, it, ifs, 0⟩] sc pos) =
    (iter c.N (ev c n true σ) it).bind fun xs => lim (comp1 (asg c.N (wipeD σ ((ownOf c.N sc.names).map (·.2))) t) (fun σ' => tests (tst c n σ') ifs) (fun σ' => ev c n false σ' elt) xs) := by
  have h : ∀ xs, comp1 (asg c.N (wipeD σ ((ownOf c.N sc.names).map (·.2))) t) (fun σ' => tests (tst c n σ') ifs) (fun σ' => ev c n false σ' elt) xs = _ := comp1_eq _ _ _
  simp only [h]
  rfl
theorem ev_lc2 (c : Cfg) (n : Nat) (b : Bool) (σ : List Sl) (elt t it t' it' : Expr) (ifs' : List Expr) (sc : Scope) (pos : Pos) : ev c (n + 1) b σ (.ListComp elt [⟨t, it, [], 0⟩, ⟨t', it', ifs', 0⟩] sc pos) =
    (iter c.N (ev c n true σ) it).bind fun xs => lim (comp2 (asg c.N (wipeD σ ((ownOf c.N sc.names).map (·.2))) t) (fun σ' => iter c.N (ev c n false σ') it')
      (fun σ' zs => comp1 (asg c.N (wipeD σ' (tgIx c.N t')) t') (fun σ'' => tests (tst c n σ'') ifs') (fun σ'' => ev c n false σ'' elt) zs) xs) := by
  simp only [comp2_eq, comp1_eq]
  rfl
theorem gs_of {N : List Str} {elt : Expr} {gs : List Comprehension} {scope : Scope} {pos : Pos} (h : ckE N fns (m + 1) sc fn (.ListComp elt gs scope pos) = true) :
    (∃ t it ifs, gs = [⟨t, it, ifs, 0⟩]) ∨ ∃ t it t' it' ifs', gs = [⟨t, it, [], 0⟩, ⟨t', it', ifs', 0⟩] := by
  unfold ckE at h
  split at h <;> first | (rename_i e; cases e; done) | skip
  all_goals first | (cases h; done) | skip
  · rename_i e; cases e; exact .inl ⟨_, _, _, rfl⟩
  · rename_i e; cases e; exact .inr ⟨_, _, _, _, _, rfl⟩
theorem nest_two {f : Str} {a b : Expr} : nestA f [a, b] = none := by
  unfold nestA
  split
  · rename_i h; cases h
  · rfl
theorem nest_ok {f : Str} {as : List Expr} {ne : NestE} (h : nestA f as = some ne) : ∃ (g : Str) (p2 : Pos) (es : List Expr) (q : Pos), as = [.Call (.Name g p2) es [] q] ∧
    ((∃ a, ne = .sset a ∧ es = [a] ∧ g = "set" ∧ f = "sorted") ∨ (∃ a, ne = .lset a ∧ es = [a] ∧ g = "set" ∧ f = "len") ∨ ∃ a b c, ne = .zip3 [a, b, c] ∧ es = [a, b, c] ∧ g = "zip" ∧ f = "list") := by
  unfold nestA at h
  split at h
  · rename_i g p2 es q
    refine ⟨g, p2, es, q, rfl, ?_⟩
    split at h
    · rename_i a
      obtain ⟨c1, h⟩ := cond_some h
      have c1 := of_decide_eq_true c1
      by_cases hf : f = "sorted"
      · rw [decide_eq_true hf, cond_true] at h
        exact .inl ⟨a, (Option.some.inj h).symm, rfl, c1, hf⟩
      · rw [decide_eq_false hf, cond_false] at h
        obtain ⟨c2, h⟩ := cond_some h
        exact .inr (.inl ⟨a, (Option.some.inj h).symm, rfl, c1, of_decide_eq_true c2⟩)
    · rename_i a b c
      obtain ⟨c1, h⟩ := cond_some h
      rw [Bool.and_eq_true] at c1
      exact .inr (.inr ⟨a, b, c, (Option.some.inj h).symm, rfl, of_decide_eq_true c1.1, of_decide_eq_true c1.2⟩)
    · cases h
  · cases h
theorem snd_succ (S : Snd c k fns n) : Snd c k fns (n + 1) := by
  refine ⟨fun m X sc fn g e h => ?_, fun m X sc fn g vs pos h => ?_, fun m X sc fn g lo h => ?_⟩
  · cases m with
    | zero => cases h
    | succ m =>
    -- the test of an expression that is no and, or, not, if, comparison
    have plain : (∀ b, SE X b e fun σ => ev c (n + 1) b σ e) → (isFresh e = true → SF X e fun σ => ev c (n + 1) false σ e) → (∀ whole, isTrue e X.env whole = (do let v ← whole; standAt e.pos; holding [v] (truthy v))) → (∀ σ, tst c (n + 1) σ e = (ev c n true σ e).bind truD) →
        (∀ b, SE X b e fun σ => ev c (n + 1) b σ e) ∧ (ST X e fun σ => tst c (n + 1) σ e) ∧ (isFresh e = true → SF X e fun σ => ev c (n + 1) false σ e) := fun h1 h2 h3 h4 => by
      refine ⟨h1, ?_, h2⟩
      have h5 := st_val ((S.e (m + 1) X sc fn g e h).1 true) h3
      exact h5.eqf fun σ d hd => by rw [h4] at hd; exact hd
    have nof : isFresh e = false → isFresh e = true → SF X e fun σ => ev c (n + 1) false σ e := fun h1 h2 => by rw [h1] at h2; cases h2
    cases e with
    | Constant kk j pos =>
      refine plain (fun b => se_const fun s e => ?_) (nof rfl) (fun _ => rfl) fun _ => rfl
      subst e
      exact h
    | Name x pos =>
      refine plain (fun b => ?_) (nof rfl) (fun _ => rfl) fun _ => rfl
      have h : (okX x && (match c.N.idxOf? x with | some _ => locB sc.names x | none => glB sc.names x)) = true := h
      rw [Bool.and_eq_true] at h
      obtain ⟨o1, o2⟩ := okX_of h.1
      cases hx : c.N.idxOf? x with
      | some i =>
        rw [hx] at h
        refine (se_var (pos := pos) (by rw [g.nN]; exact ix_get hx) (vis_of g h.2) o1 o2).eqf fun σ d hd => ?_
        unfold ev at hd
        simp only [hx] at hd
        exact hd
      | none =>
        rw [hx] at h
        refine (se_glob (pos := pos) (gl_of g h.2) (g.glob x) o1).eqf fun σ d hd => ?_
        unfold ev at hd
        simp only [hx] at hd
        exact hd
    | Tuple es kk pos =>
      refine plain (fun b => ?_) (nof rfl) (fun _ => rfl) fun _ => rfl
      have h : (es.all fun e => ckE c.N fns m sc fn (unStar e)) = true := h
      rw [List.all_eq_true] at h
      refine (se_tuple (sa_args S g false es h)).eqf fun σ d hd => ?_
      unfold ev at hd
      simp only [args_disp] at hd
      exact hd
    | List es pos =>
      have h : (es.all fun e => ckE c.N fns m sc fn (unStar e)) = true := h
      rw [List.all_eq_true] at h
      have hF : ∀ b, SF X (.List es pos) fun σ => ev c (n + 1) b σ (.List es pos) := fun b => (sf_list (pos := pos) (sa_args S g false es h)).imp fun σ H Q ⟨O, Ow, es', d, hO, F, e, q⟩ => ⟨O, Ow, es', d, hO, F, by
        unfold ev at e
        simp only [args_disp] at e
        exact e, q⟩
      exact plain (fun b => (hF b).se) (fun _ => hF false) (fun _ => rfl) fun _ => rfl
    | BinOp l o r pos =>
      refine plain (fun b => ?_) (nof rfl) (fun _ => rfl) fun _ => rfl
      have h : (ckE c.N fns m sc fn l && ckE c.N fns m sc fn r) = true := h
      rw [Bool.and_eq_true] at h
      exact se_bin ((S.e m X sc fn g l h.1).1 true) ((S.e m X sc fn g r h.2).1 true)
    | UnaryOp o x pos =>
      have h : ckE c.N fns m sc fn x = true := h
      cases o with
      | Not => exact ⟨fun b => se_not ((S.e m X sc fn g x h).1 true), st_not ((S.e m X sc fn g x h).2.1), nof rfl⟩
      | USub => exact plain (fun b => se_neg ((S.e m X sc fn g x h).1 true)) (nof rfl) (fun _ => rfl) fun _ => rfl
      | _ => exact plain (fun b => se_none) (nof rfl) (fun _ => rfl) fun _ => rfl
    | BoolOp o vs pos =>
      have h : (vs.all fun e => ckE c.N fns m sc fn e) = true := h
      rw [List.all_eq_true] at h
      obtain ⟨h1, h2, h3, h4⟩ := S.a m X sc fn g vs pos h
      cases o with
      | And => exact ⟨h1, h3.pt, nof rfl⟩
      | Or => exact ⟨h2, h4.pt, nof rfl⟩
    | IfExp t x y pos =>
      have h : (ckE c.N fns m sc fn t && (ckE c.N fns m sc fn x && ckE c.N fns m sc fn y)) = true := h
      rw [Bool.and_eq_true, Bool.and_eq_true] at h
      exact ⟨fun b => se_ifExp ((S.e m X sc fn g t h.1).2.1) ((S.e m X sc fn g x h.2.1).1 b) ((S.e m X sc fn g y h.2.2).1 b), st_ifExp ((S.e m X sc fn g t h.1).2.1) ((S.e m X sc fn g x h.2.1).2.1) ((S.e m X sc fn g y h.2.2).2.1), nof rfl⟩
    | Compare l ops rs pos =>
      match ops, rs, h with
      | [o], [r], h =>
        have h : (!isSet r && (ckE c.N fns m sc fn l && ckE c.N fns m sc fn r)) = true := h
        rw [Bool.and_eq_true, Bool.and_eq_true] at h
        have hr := set_no (show isSet r = false by simpa using h.1)
        exact ⟨fun b => se_cmp g.hu hr ((S.e m X sc fn g l h.2.1).1 true) ((S.e m X sc fn g r h.2.2).1 true), st_cmp g.hu hr ((S.e m X sc fn g l h.2.1).1 true) ((S.e m X sc fn g r h.2.2).1 true), nof rfl⟩
      | [o, o'], [t, r], h =>
        have h : ((!isSet t && !isSet r) && (ckE c.N fns m sc fn l && (ckE c.N fns m sc fn t && ckE c.N fns m sc fn r))) = true := h
        rw [Bool.and_eq_true, Bool.and_eq_true, Bool.and_eq_true, Bool.and_eq_true] at h
        have hr := marks2 (o := o) (o' := o') (a := t) (show isSet r = false by simpa using h.1.2)
        exact ⟨fun b => se_chain g.hu hr ((S.e m X sc fn g l h.2.1).1 true) ((S.e m X sc fn g t h.2.2.1).1 true) ((S.e m X sc fn g r h.2.2.2).1 true), st_chain g.hu hr ((S.e m X sc fn g l h.2.1).1 true) ((S.e m X sc fn g t h.2.2.1).1 true) ((S.e m X sc fn g r h.2.2.2).1 true), nof rfl⟩
      | [], _, h => cases h
      | [_], [], h => cases h
      | [_], _ :: _ :: _, h => cases h
      | [_, _], [], h => cases h
      | [_, _], [_], h => cases h
      | [_, _], _ :: _ :: _ :: _, h => cases h
      | _ :: _ :: _ :: _, _, h => cases h
    | Subscript x i pos =>
      cases hi : isSlice i with
      | false =>
        have h : (ckE c.N fns m sc fn x && ckE c.N fns m sc fn i) = true := by
          cases i <;> first | (cases hi; done) | exact h
        rw [Bool.and_eq_true] at h
        refine plain (fun b => (se_ix (slice_no hi) ((S.e m X sc fn g x h.1).1 true) ((S.e m X sc fn g i h.2).1 true)).eqf fun σ d hd => ?_) (nof rfl) (fun _ => rfl) fun _ => rfl
        cases i <;> first | (cases hi; done) | exact hd
      | true =>
        cases i with
        | Slice lo hi' st p =>
          cases st with
          | some _ => cases h
          | none =>
            have h : (ckE c.N fns m sc fn x && (lo.all (fun e => ckE c.N fns m sc fn e) && hi'.all fun e => ckE c.N fns m sc fn e)) = true := h
            rw [Bool.and_eq_true, Bool.and_eq_true] at h
            have ho : ∀ o : Option Expr, (o.all fun e => ckE c.N fns m sc fn e) = true → ∀ e, o = some e → ckE c.N fns m sc fn e = true := fun o h e he => by subst he; exact h
            exact plain (fun b => se_slice ((S.e m X sc fn g x h.1).1 true) (S.o m X sc fn g lo (ho lo h.2.1)) (S.o m X sc fn g hi' (ho hi' h.2.2))) (nof rfl) (fun _ => rfl) fun _ => rfl
        | _ => cases hi
    | Call fe as kws pos =>
      cases fe with
      | Name f p =>
        cases kws with
        | cons _ _ => cases h
        | nil =>
          cases hn : nestA f as with
          | some ne =>
            have h : (match (generalizing := false) nestA f as with
              | some (.sset a) => glB sc.names f && (glB sc.names "set" && (!isStar a && ckE c.N fns m sc fn a))
              | some (.lset a) => glB sc.names f && (glB sc.names "set" && (!isStar a && ckE c.N fns m sc fn a))
              | some (.zip3 es) => glB sc.names f && (glB sc.names "zip" && es.all fun a => !isStar a && ckE c.N fns m sc fn a)
              | none => _) = true := h
            rw [hn] at h
            obtain ⟨g', p2, es, q, rfl, hw⟩ := nest_ok hn
            refine plain (fun b => ?_) (nof rfl) (fun _ => rfl) fun _ => rfl
            rcases hw with ⟨a, rfl, rfl, rfl, rfl⟩ | ⟨a, rfl, rfl, rfl, rfl⟩ | ⟨a, a', a'', rfl, rfl, rfl, rfl⟩
            · simp only [Bool.and_eq_true] at h
              refine (se_sset (p := p) (p2 := p2) (q := q) (pos := pos) g.calm g.hu (gl_of g h.1) (g.b .sorted) (gl_of g h.2.1) g.st (by simpa using h.2.2.1) ((S.e m X sc fn g a h.2.2.2).1 true)).eqf fun σ d hd => ?_
              unfold ev at hd
              simp only [hn] at hd
              exact hd
            · simp only [Bool.and_eq_true] at h
              refine (se_lset (p := p) (p2 := p2) (q := q) (pos := pos) g.calm g.hu (gl_of g h.1) (g.b .len) (gl_of g h.2.1) g.st (by simpa using h.2.2.1) ((S.e m X sc fn g a h.2.2.2).1 true)).eqf fun σ d hd => ?_
              unfold ev at hd
              simp only [hn] at hd
              exact hd
            · simp only [Bool.and_eq_true, List.all_eq_true] at h
              have hst : ∀ e ∈ [a, a', a''], isStar e = false := fun e he => by simpa using (h.2.2 e he).1
              have hu : ∀ e ∈ [a, a', a''], ckE c.N fns m sc fn (unStar e) = true := fun e he => by
                have h1 := hst e he
                have h2 := (h.2.2 e he).2
                cases e <;> first | (cases h1; done) | exact h2
              refine (se_zip3 (p := p) (p2 := p2) (q := q) (pos := pos) g.calm (gl_of g h.1) (g.t .list) (gl_of g h.2.1) g.z (hst a (by simp)) (hst a' (by simp)) (hst a'' (by simp)) (sa_args S g true [a, a', a''] hu)).eqf fun σ d hd => ?_
              unfold ev at hd
              simp only [hn, args_true c n σ _ hst] at hd
              exact hd
          | none =>
          have h : (match (generalizing := false) nestA f as with
              | some (.sset a) => glB sc.names f && (glB sc.names "set" && (!isStar a && ckE c.N fns m sc fn a))
              | some (.lset a) => glB sc.names f && (glB sc.names "set" && (!isStar a && ckE c.N fns m sc fn a))
              | some (.zip3 es) => glB sc.names f && (glB sc.names "zip" && es.all fun a => !isStar a && ckE c.N fns m sc fn a)
              | none => _) = true := h
          rw [hn] at h
          have h : (glB sc.names f && (okX f && ((!as.isEmpty && as.all fun a => !isStar a) && cond (decide (f = "isinstance")) (match (generalizing := false) as with
            | [x, .Name t _] => (glB sc.names t && okX t) && ckE c.N fns m sc fn x
            | _ => false) ((as.all fun a => ckE c.N fns m sc fn a) && ((bFind f).isSome || fns.contains f))))) = true := h
          rw [Bool.and_eq_true, Bool.and_eq_true, Bool.and_eq_true, Bool.and_eq_true] at h
          obtain ⟨hg, ho, ⟨hne, hst⟩, hc⟩ := h
          have hst : ∀ a ∈ as, isStar a = false := fun a ha => by simpa using List.all_eq_true.mp hst a ha
          refine plain (fun b => ?_) (nof rfl) (fun _ => rfl) fun _ => rfl
          by_cases hi : f = "isinstance"
          · rw [decide_eq_true hi, cond_true] at hc
            split at hc
            · rename_i _ x t p2 _ _
              have hn2 : ∀ f t, nestA f [x, .Name t p2] = none := fun f t => nest_two
              rw [Bool.and_eq_true, Bool.and_eq_true] at hc
              cases ht : tFind t with
              | none =>
                refine (se_isi2 g.isi hi (gl_of g hg) (by rw [hi]; exact g.i) (gl_of g hc.1.1) (okX_of hc.1.2).1 (hst x (by simp)) ((S.e m X sc fn g x hc.2).1 true)).eqf fun σ d hd => ?_
                unfold ev at hd
                simp only [hn2, hi, decide_true, cond_true, ht] at hd
                exact hd
              | some t' =>
                have e := tFindIn_ok ht
                subst e
                refine (se_isi (t := t') hi (gl_of g hg) (by rw [hi]; exact g.i) (gl_of g hc.1.1) (g.t t') (hst x (by simp)) ((S.e m X sc fn g x hc.2).1 true)).eqf fun σ d hd => ?_
                unfold ev at hd
                simp only [hn2, hi, decide_true, cond_true, ht] at hd
                exact hd
            · cases hc
          · rw [decide_eq_false hi, cond_false, Bool.and_eq_true, List.all_eq_true] at hc
            match as, hne, hst, hc with
            | [], hne, _, _ => cases hne
            | a :: as, _, hst, hc =>
              have hu : ∀ e ∈ a :: as, ckE c.N fns m sc fn (unStar e) = true := fun e he => by
                have h1 := hst e he
                have h2 := hc.1 e he
                cases e <;> first | (cases h1; done) | exact h2
              cases hb : bFind f with
              | some bi =>
                have e := bFindIn_ok hb
                subst e
                refine (se_builtin (bi := bi) g.calm g.hu g.gd (gl_of g hg) (g.b bi) (hst a List.mem_cons_self) (fun e he => hst e (List.mem_cons_of_mem _ he)) (sa_args S g true (a :: as) hu)).eqf fun σ d hd => ?_
                unfold ev at hd
                simp only [hn, decide_eq_false hi, cond_false, hb, args_true c n σ _ hst] at hd
                exact hd
              | none =>
                rw [hb] at hc
                have hf : f ∈ fns := by simpa using hc.2
                cases hm : c.G.m f with
                | true =>
                  obtain ⟨j, hj⟩ := g.kp
                  have hroom := g.room
                  rw [hj] at hroom
                  refine (se_mk (g.mkr f hm) hroom (gl_of g hg) (okX_of ho).1 (hst a List.mem_cons_self) (fun e he => hst e (List.mem_cons_of_mem _ he)) (sa_args S g false (a :: as) hu)).eqf fun σ d hd => ?_
                  unfold ev at hd
                  simp only [hn, decide_eq_false hi, cond_false, hb, hm, cond_true, args_false c n σ _ hst] at hd
                  exact hd
                | false =>
                have hcall : CallOk X k f (c.C f) := (g.call f hf).resolve_left (by rw [hm]; exact Bool.false_ne_true)
                refine (se_call hcall g.room g.gd (gl_of g hg) (okX_of ho).1 (hst a List.mem_cons_self) (fun e he => hst e (List.mem_cons_of_mem _ he)) (sa_args S g false (a :: as) hu)).eqf fun σ d hd => ?_
                unfold ev at hd
                simp only [hn, decide_eq_false hi, cond_false, hb, hm, args_false c n σ _ hst] at hd
                exact hd
      | Attribute e m' ap =>
        cases kws with
        | cons _ _ => rcases as with _ | ⟨_, _ | ⟨_, _ | _⟩⟩ <;> cases h
        | nil =>
          match as, h with
          | [x, y], h =>
            have h : (decide (m' = "get") && ((!isStar x && !isStar y) && ((ap.endLine == pos.line) && ((ckE c.N fns m sc fn x && ckE c.N fns m sc fn y) && (match (generalizing := false) e with
              | .Dict _ _ _ => true
              | e => atB e && ckE c.N fns m sc fn e))))) = true := h
            simp only [Bool.and_eq_true] at h
            obtain ⟨hm, ⟨hx, hy⟩, hl, ⟨cx, cy⟩, he⟩ := h
            have hm := of_decide_eq_true hm
            subst hm
            refine plain (fun b => ?_) (nof rfl) (fun _ => rfl) fun _ => rfl
            have key : atB e = true → ckE c.N fns m sc fn e = true → (∀ σ, ev c (n + 1) b σ (.Call (.Attribute e "get" ap) [x, y] [] pos) = (ev c n true σ e).bind fun k => (ev c n true σ x).bind fun d => (ev c n b σ y).bind fun d' => getD2 k d d') → SE X b (.Call (.Attribute e "get" ap) [x, y] [] pos) fun σ => ev c (n + 1) b σ (.Call (.Attribute e "get" ap) [x, y] [] pos) := fun h1 h2 h3 => by
              have hb : attributeBase e "get" X.env (eval e X.env) = eval e X.env := by
                cases e <;> first | (cases h1; done) | rfl
              exact (se_get hb (by simpa using hx) (by simpa using hy) hl ((S.e m X sc fn g e h2).1 true) ((S.e m X sc fn g x cx).1 true) ((S.e m X sc fn g y cy).1 b)).eqf fun σ d hd => by rw [h3] at hd; exact hd
            have kk : ∀ {e}, (atB e && ckE c.N fns m sc fn e) = true → atB e = true ∧ ckE c.N fns m sc fn e = true := fun h => Bool.and_eq_true_iff.mp h
            cases e with
            | Dict ks vs dp =>
              cases hd0 : dispD ks vs with
              | none =>
                refine se_none.eqf fun σ d hd => ?_
                unfold ev at hd
                simp only [decide_true, cond_true, hd0] at hd
                cases hd
              | some kvs =>
                refine (se_dget g.hu (by simpa using hx) (by simpa using hy) hl hd0 ((S.e m X sc fn g x cx).1 true) ((S.e m X sc fn g y cy).1 b)).eqf fun σ d hd => ?_
                unfold ev at hd
                simp only [decide_true, cond_true, hd0, Option.bind_some] at hd
                exact hd
            | Name nx np => exact key rfl (kk he).2 fun σ => rfl
            | Subscript sx si sp => exact key rfl (kk he).2 fun σ => rfl
            | _ => exact absurd (kk he).1 (by simp [atB])
          | [], h => cases h
          | [_], h => cases h
          | _ :: _ :: _ :: _, h => cases h
      | _ => cases h
    | Attribute x a pos =>
      have h : (atB x && ckE c.N fns m sc fn x) = true := h
      rw [Bool.and_eq_true] at h
      refine plain (fun b => ?_) (nof rfl) (fun _ => rfl) fun _ => rfl
      have hb : attributeBase x "at" X.env (eval x X.env) = eval x X.env := by
        have h1 := h.1
        cases x <;> first | (cases h1; done) | rfl
      exact (se_at g.att hb ((S.e m X sc fn g x h.2).1 true)).eqf fun σ d hd => hd
    | ListComp elt gs scope pos =>
      have done : (∀ b, SF X (.ListComp elt gs scope pos) fun σ => ev c (n + 1) b σ (.ListComp elt gs scope pos)) → (∀ b, SE X b (.ListComp elt gs scope pos) fun σ => ev c (n + 1) b σ (.ListComp elt gs scope pos)) ∧ (ST X (.ListComp elt gs scope pos) fun σ => tst c (n + 1) σ (.ListComp elt gs scope pos)) ∧ (isFresh (.ListComp elt gs scope pos) = true → SF X (.ListComp elt gs scope pos) fun σ => ev c (n + 1) false σ (.ListComp elt gs scope pos)) := fun hF =>
        plain (fun b => (hF b).se) (fun _ => hF false) (fun _ => rfl) fun _ => rfl
      have setno : ∀ {sc fn t e}, ckI c.N fns m sc fn t e = true → isSet e = false := fun h => by
        unfold ckI at h
        rw [Bool.and_eq_true] at h
        simpa using h.1
      rcases gs_of h with ⟨t, it, ifs, rfl⟩ | ⟨t, it, t', it', ifs', rfl⟩
      ·
        have h : ((ckI c.N fns m sc fn t it && blkB c.N sc.names scope) && ((ckTg (relS scope sc).names (fun x => scope.names.lookup x == some .cell) t && subB (tgIx c.N t) ((ownOf c.N scope.names).map (·.2))) &&
          ((match (generalizing := false) ifs with
            | [] => true
            | [c'] => ckE c.N fns m (relS scope sc) (fun x => scope.names.lookup x == some .cell) c'
            | _ => false) && ckE c.N fns m (relS scope sc) (fun x => scope.names.lookup x == some .cell) elt))) = true := h
        rw [Bool.and_eq_true, Bool.and_eq_true, Bool.and_eq_true, Bool.and_eq_true, Bool.and_eq_true] at h
        obtain ⟨⟨hi, hb⟩, ⟨ht, hsub⟩, hifs, helt⟩ := h
        refine done fun b => ?_
        refine SF.eqf ?_ fun σ => ev_lc1 c n b σ elt t it ifs scope pos
        refine sf_comp1 (own := ownOf c.N scope.names) g.calm g.nd (si_iter S g hi) (blk_of g hb) (fun s H C cl fp => (tg_of (good_blk g scope s H C cl fp) ht).mono (sub_of hsub)) (fun s H C cl fp => pts_of S (good_blk g scope s H C cl fp) hifs) (fun s H C cl fp => (S.e m _ _ _ (good_blk g scope s H C cl fp) elt helt).1 false) (fold_set (setno hi) _)
      ·
        have h : ((ckI c.N fns m sc fn t it && blkB c.N sc.names scope) && ((ckTg (relS scope sc).names (fun x => scope.names.lookup x == some .cell) t && subB (tgIx c.N t) ((ownOf c.N scope.names).map (·.2))) &&
          ((ckI c.N fns m (relS scope sc) (fun x => scope.names.lookup x == some .cell) t' it' && (ckTg (relS scope sc).names (fun x => scope.names.lookup x == some .cell) t' && subB (tgIx c.N t') ((ownOf c.N scope.names).map (·.2)))) && ((match (generalizing := false) ifs' with
            | [] => true
            | [c'] => ckE c.N fns m (relS scope sc) (fun x => scope.names.lookup x == some .cell) c'
            | _ => false) && ckE c.N fns m (relS scope sc) (fun x => scope.names.lookup x == some .cell) elt)))) = true := h
        rw [Bool.and_eq_true, Bool.and_eq_true, Bool.and_eq_true, Bool.and_eq_true, Bool.and_eq_true, Bool.and_eq_true, Bool.and_eq_true, Bool.and_eq_true] at h
        obtain ⟨⟨hi, hb⟩, ⟨ht, hsub⟩, ⟨hi', ht', hsub'⟩, hifs, helt⟩ := h
        refine done fun b => ?_
        refine SF.eqf ?_ fun σ => ev_lc2 c n b σ elt t it t' it' ifs' scope pos
        exact sf_comp2 (own := ownOf c.N scope.names) (vs1 := tgIx c.N t') g.calm g.nd (si_iter S g hi) (blk_of g hb) (sub_of hsub') (fun s H C cl fp => (tg_of (good_blk g scope s H C cl fp) ht).mono (sub_of hsub)) (fun s H C cl fp => si_iter S (good_blk g scope s H C cl fp) hi') (fun s H C cl fp => tg_of (good_blk g scope s H C cl fp) ht') (fun s H C cl fp => pts_of S (good_blk g scope s H C cl fp) hifs) (fun s H C cl fp => (S.e m _ _ _ (good_blk g scope s H C cl fp) elt helt).1 false) (fold_set (setno hi) _) (fold_set (setno hi'))
    | _ => cases h
  · match vs, h with
    | [], _ =>
      refine ⟨fun b => se_none, fun b => se_none, ?_, ?_⟩
      · exact sw_none.imp fun σ H Q ⟨O, Ow, es, d, hO, F, e, q⟩ => by cases e
      · exact sw_none.imp fun σ H Q ⟨O, Ow, es, d, hO, F, e, q⟩ => by cases e
    | [e], h =>
      obtain ⟨h1, h2, h3⟩ := S.e m X sc fn g e (h e List.mem_cons_self)
      exact ⟨fun b => se_and1 (h1 b), fun b => se_and1 (h1 b), sw_and1 h2, sw_or1 h2⟩
    | e :: e' :: r, h =>
      obtain ⟨h1, h2, h3⟩ := S.e m X sc fn g e (h e List.mem_cons_self)
      obtain ⟨i1, i2, i3, i4⟩ := S.a m X sc fn g (e' :: r) pos fun x hx => h x (List.mem_cons_of_mem _ hx)
      exact ⟨fun b => se_and (h1 b) (i1 b), fun b => se_or (h1 b) (i2 b), sw_and h2 i3, sw_or h2 i4⟩
  · cases lo with
    | none => exact so_none
    | some e => exact so_some ((S.e m X sc fn g e (h e rfl)).1 true)
theorem snd_all : ∀ n, Snd c k fns n
  | 0 => snd_zero
  | n + 1 => snd_succ (snd_all n)
end
end EV

namespace EV
open PySem PySem.Spec PyProof.Rows L2

/-! ### the state between statements -/
structure Rs (K : PySem.W.Frag) (w : World) (O0 : Addr → Prop) (H0 : Hp) (O : Addr → Prop) (es : List Sl) (σ : L2.St) (H : Hp) : Prop where
  ok : OkO O H
  sub : ∀ a, O0 a → O a
  new : ∀ a, O a → O0 a ∨ H0 a = none
  k0 : Same H0 H
  fr : Fr K w O (fun a => ¬ O0 a) es σ H
  inj : ∀ (i j : Nat) (l l' : List D) (a : Addr), es[i]? = some (.ow l) → es[j]? = some (.ow l') → σ[i]? = some (some (.ref a)) → σ[j]? = some (some (.ref a)) → i = j
  len : σ.length = es.length
/-- a stretch of work -/
structure Stp (O : Addr → Prop) (H : Hp) (O' : Addr → Prop) (H' : Hp) : Prop where
  k : Keeps O H H'
  o : ∀ a, O' a → O a ∨ H a = none
  g : ∀ a, H' a = none → H a = none
section
variable {K : PySem.W.Frag} {w : World} {O0 : Addr → Prop} {H0 : Hp} {O O' O1 O2 O3 : Addr → Prop} {es es' : List Sl} {σ σ' : L2.St} {H H' H1 H2 H3 : Hp}
theorem same_none (s : Same H H') {a : Addr} (h : H' a = none) : H a = none := s.free h
theorem Stp.same (s : Same H H') : Stp O H O H' := ⟨Same.keeps s, fun _ h => .inl h, fun _ => s.free⟩
theorem Stp.refl : Stp O H O H := .same (Same.refl H)
theorem Stp.trans (a : Stp O1 H1 O2 H2) (b : Stp O2 H2 O3 H3) : Stp O1 H1 O3 H3 := by
  have no : ∀ x xs, H1 x = some (.lst xs) → ¬ O1 x → ¬ O2 x := fun x xs e n z => (a.o x z).elim n fun q => by rw [q] at e; cases e
  refine ⟨⟨fun x xs e n => b.k.l _ _ (a.k.l _ _ e n) (no x xs e n), fun x xs e => b.k.t _ _ (a.k.t _ _ e), fun x o u e => b.k.f _ _ _ (a.k.f _ _ _ e), fun x φ e => b.k.e _ _ (a.k.e _ _ e), fun x fs e => b.k.x _ _ (a.k.x _ _ e)⟩, fun x z => ?_, fun x z => a.g x (b.g x z)⟩
  rcases b.o x z with z | z
  · exact a.o x z
  · exact .inr (a.g x z)
theorem Stp.less (h : ∀ a, O' a → O a) : Stp O H O' H := ⟨Same.keeps (Same.refl H), fun a z => .inl (h a z), fun _ z => z⟩

theorem Rs.same (R : Rs K w O0 H0 O es σ H) (s : Same H H') : Rs K w O0 H0 O es σ H' :=
  ⟨R.ok.same s, R.sub, R.new, R.k0.trans s, R.fr.same s, R.inj, R.len⟩
theorem Rs.ok0 (R : Rs K w O0 H0 O es σ H) : OkO O0 H := fun a z => R.ok a (R.sub a z)
theorem Rs.less (R : Rs K w O0 H0 O es σ H) {v : V} {d : D} (r : Ro K w O H v d) : Ro K w O0 H v d := r.less R.sub
/-- one slot is shared -/
theorem Rs.share (R : Rs K w O0 H0 O es σ H) (i : Nat) : ∃ O', Rs K w O0 H0 O' (es.modify i Sl.share) σ H ∧ Stp O H O' H := by
  have plain : es.modify i Sl.share = es → ∃ O', Rs K w O0 H0 O' (es.modify i Sl.share) σ H ∧ Stp O H O' H := fun e => ⟨O, by rw [e]; exact R, .refl⟩
  cases e : es[i]? with
  | none =>
    apply plain
    apply List.ext_getElem?
    intro j
    rw [List.getElem?_modify]
    by_cases hj : i = j
    · subst hj; rw [e]; rfl
    · simp [hj]
  | some s =>
    have keep : s.share = s → ∃ O', Rs K w O0 H0 O' (es.modify i Sl.share) σ H ∧ Stp O H O' H := fun h => plain (by
      apply List.ext_getElem?
      intro j
      rw [List.getElem?_modify]
      by_cases hj : i = j
      · subst hj; rw [e]; simp [h]
      · simp [hj])
    cases s with
    | un => exact keep rfl
    | sh d => exact keep rfl
    | ow l =>
      clear keep plain
      obtain ⟨a, xs, e1, h1, ⟨h2, h3⟩, h4⟩ := R.fr i _ e
      have lss : ∀ b, (O b ∧ b ≠ a) → O b := fun b z => z.1
      refine ⟨fun b => O b ∧ b ≠ a, ⟨fun b z => R.ok b z.1, fun b z => ⟨R.sub b z, fun q => h3 (q ▸ z)⟩, fun b z => R.new b z.1, R.k0, fun j s ej => ?_, fun j j' l1 l2 b g1 g2 => ?_, by rw [R.len, List.length_modify]⟩, Stp.less lss⟩
      · rw [List.getElem?_modify] at ej
        by_cases hj : i = j
        · subst hj
          rw [e] at ej
          simp at ej
          subst ej
          exact ⟨_, e1, .lst (.inl h1) (fun z => z.2 rfl) (h4.less lss)⟩
        · simp only [hj, if_false] at ej
          have ej : es[j]? = some s := by simpa using ej
          have hs := R.fr j s ej
          cases s with
          | un => trivial
          | sh d => obtain ⟨v, ev, r⟩ := hs; exact ⟨v, ev, r.less lss⟩
          | ow l2 =>
            obtain ⟨b, ys, f1, f2, ⟨f3, f4⟩, f5⟩ := hs
            exact ⟨b, ys, f1, f2, ⟨⟨f3, fun q => hj (R.inj i j _ _ a e ej e1 (q ▸ f1))⟩, f4⟩, f5.less lss⟩
      · rw [List.getElem?_modify] at g1 g2
        have g1' : es[j]? = some (.ow l1) := by
          by_cases hj : i = j
          · subst hj; rw [e] at g1; simp at g1; cases g1
          · simpa [hj] using g1
        have g2' : es[j']? = some (.ow l2) := by
          by_cases hj : i = j'
          · subst hj; rw [e] at g2; simp at g2; cases g2
          · simpa [hj] using g2
        exact R.inj j j' _ _ b g1' g2'
theorem Rs.shareN {N : List Str} : ∀ (xs : List Str) {O : Addr → Prop} {es : List Sl}, Rs K w O0 H0 O es σ H → ∃ O', Rs K w O0 H0 O' (shareN N xs es) σ H ∧ Stp O H O' H
  | [], O, es, R => ⟨O, R, .refl⟩
  | x :: xs, O, es, R => by
    unfold EV.shareN
    rw [List.foldl_cons]
    cases N.idxOf? x with
    | none => exact Rs.shareN xs R
    | some i =>
      obtain ⟨O1, R1, s1⟩ := R.share i
      obtain ⟨O2, R2, s2⟩ := Rs.shareN (N := N) xs R1
      exact ⟨O2, R2, s1.trans s2⟩
theorem Rs.shareAll (R : Rs K w O0 H0 O es σ H) : Fr K w O0 (fun a => ¬ O0 a) (es.map Sl.share) σ H := by
  intro j s ej
  rw [List.getElem?_map] at ej
  obtain ⟨s0, e0, rfl⟩ := Option.map_eq_some_iff.mp ej
  have hs := R.fr j s0 e0
  cases s0 with
  | un => trivial
  | sh d => obtain ⟨v, ev, r⟩ := hs; exact ⟨v, ev, r.less R.sub⟩
  | ow l =>
    obtain ⟨b, ys, f1, f2, ⟨f3, f4⟩, f5⟩ := hs
    exact ⟨_, f1, .lst (.inl f2) f4 (f5.less R.sub)⟩
theorem set_get {α : Type} {xs : List α} {i j : Nat} {x y : α} (e : (xs.set i x)[j]? = some y) : (i = j ∧ i < xs.length ∧ x = y) ∨ (i ≠ j ∧ xs[j]? = some y) := by
  by_cases hj : i = j
  · subst hj
    have hl : i < xs.length := by
      have := (List.getElem?_eq_some_iff.mp e).1
      simpa using this
    rw [List.getElem?_set_self hl] at e
    exact .inl ⟨rfl, hl, Option.some.inj e⟩
  · rw [List.getElem?_set_ne hj] at e
    exact .inr ⟨hj, e⟩
theorem Rs.setSh (R : Rs K w O0 H0 O es σ H) {i : Nat} {v : V} {d : D} (r : Ro K w O H v d) : Rs K w O0 H0 O (es.set i (.sh d)) (σ.set i (some v)) H := by
  refine ⟨R.ok, R.sub, R.new, R.k0, fun j s ej => ?_, fun j j' l l' a g1 g2 h1 h2 => ?_, by simp [R.len]⟩
  · rcases set_get ej with ⟨rfl, hl, rfl⟩ | ⟨n, ej⟩
    · rw [List.getElem?_set_self (by rw [R.len]; exact hl)]
      exact ⟨v, rfl, r⟩
    · rw [List.getElem?_set_ne n]
      exact R.fr j s ej
  · rcases set_get g1 with ⟨rfl, hl, z⟩ | ⟨n1, g1⟩
    · cases z
    rcases set_get g2 with ⟨rfl, hl, z⟩ | ⟨n2, g2⟩
    · cases z
    rw [List.getElem?_set_ne n1] at h1
    rw [List.getElem?_set_ne n2] at h2
    exact R.inj j j' l l' a g1 g2 h1 h2
/-- a fresh list becomes a slot's own -/
theorem Rs.setOw (R : Rs K w O0 H0 O es σ H) (s : Same H H') {i : Nat} {p : Addr} {xs : List V} {ds : List D} (hp : H p = none) (h1 : H' p = some (.lst xs)) (r : RoAll K w (fun a => O a ∨ a = p) H' xs ds) :
    Rs K w O0 H0 (fun a => O a ∨ a = p) (es.set i (.ow ds)) (σ.set i (some (.ref p))) H' ∧ Stp O H (fun a => O a ∨ a = p) H' := by
  have hO : ∀ a, (O a ∨ a = p) → O a ∨ H a = none := fun a z => z.imp id fun e => by rw [e]; exact hp
  have p0 : ¬ O0 p := fun z => by obtain ⟨ys, e⟩ := R.ok p (R.sub p z); rw [hp] at e; cases e
  have F1 : Fr K w (fun a => O a ∨ a = p) (fun a => ¬ O0 a) es σ H' := R.fr.more s hO (fun _ z => .inl z) fun _ _ z => z
  refine ⟨⟨okO_grow (R.ok.same s) h1, fun a z => .inl (R.sub a z), fun a z => ?_, R.k0.trans s, fun j t ej => ?_, fun j j' l l' a g1 g2 h3 h4 => ?_, by simp [R.len]⟩, ⟨Same.keeps s, hO, fun _ => s.free⟩⟩
  · rcases z with z | z
    · exact R.new a z
    · rw [z]; exact .inr (R.k0.free hp)
  · rcases set_get ej with ⟨rfl, hl, rfl⟩ | ⟨n, ej⟩
    · rw [List.getElem?_set_self (by rw [R.len]; exact hl)]
      exact ⟨p, xs, rfl, h1, ⟨.inr rfl, p0⟩, r⟩
    · rw [List.getElem?_set_ne n]
      exact F1 j t ej
  · have old : ∀ j l, i ≠ j → es[j]? = some (.ow l) → σ[j]? ≠ some (some (.ref p)) := fun j l n ej z => by
      obtain ⟨b, ys, f1, f2, _, _⟩ := R.fr j _ ej
      rw [z] at f1
      cases f1
      rw [hp] at f2; cases f2
    rcases set_get g1 with ⟨rfl, hl, z⟩ | ⟨n1, g1⟩
    · rw [List.getElem?_set_self (by rw [R.len]; exact hl)] at h3
      cases h3
      rcases set_get g2 with ⟨e2, hl2, z2⟩ | ⟨n2, g2⟩
      · exact e2
      · rw [List.getElem?_set_ne n2] at h4
        exact absurd h4 (old _ _ n2 g2)
    · rw [List.getElem?_set_ne n1] at h3
      rcases set_get g2 with ⟨rfl, hl2, z2⟩ | ⟨n2, g2⟩
      · rw [List.getElem?_set_self (by rw [R.len]; exact hl2)] at h4
        cases h4
        exact absurd h3 (old _ _ n1 g1)
      · rw [List.getElem?_set_ne n2] at h4
        exact R.inj j j' l l' a g1 g2 h3 h4
/-- a slot's own list grows -/
theorem Rs.grow (R : Rs K w O0 H0 O es σ H) {i : Nat} {p : Addr} {xs : List V} {l : List D} {v : List V} {d : List D} (e : es[i]? = some (.ow l)) (e1 : σ[i]? = some (some (.ref p))) (h1 : H p = some (.lst xs)) (hr : RoAll K w O H xs l) (r : RoAll K w O H v d) :
    Rs K w O0 H0 O (es.set i (.ow (l ++ d))) σ (upd H p (.lst (xs ++ v))) ∧ Stp O H O (upd H p (.lst (xs ++ v))) := by
  obtain ⟨b, ys, f1, f2, ⟨f3, f4⟩, f5⟩ := R.fr i _ e
  rw [e1] at f1
  cases f1
  have h0 : H0 p = none := (R.new p f3).elim (fun z => absurd z f4) id
  have kp : Keeps O H (upd H p (.lst (xs ++ v))) := by
    refine ⟨fun a xs e n => ?_, fun a xs e => ?_, fun a o u e => ?_, fun a φ e => ?_, fun a fs e => ?_⟩
    · rw [upd_ne (fun z => n (by rw [z]; exact f3))]; exact e
    · rw [upd_ne (fun z => by rw [z, h1] at e; cases e)]; exact e
    · rw [upd_ne (fun z => by rw [z, h1] at e; cases e)]; exact e
    · rw [upd_ne (fun z => by rw [z, h1] at e; cases e)]; exact e
    · rw [upd_ne (fun z => by rw [z, h1] at e; cases e)]; exact e
  have id0 : ∀ a, O a → O a ∨ H a = none := fun _ z => .inl z
  refine ⟨⟨fun a z => ?_, R.sub, R.new, fun a o z => ?_, fun j s ej => ?_, fun j j' l1 l2 a g1 g2 h3 h4 => ?_, by simp [R.len]⟩, ⟨kp, id0, fun a z => ?_⟩⟩
  · by_cases q : a = p
    · subst q; exact ⟨_, upd_same⟩
    · rw [upd_ne q]; exact R.ok a z
  · rw [upd_ne (fun q => by rw [q, h0] at z; cases z)]; exact R.k0 a o z
  · rcases set_get ej with ⟨rfl, hl, rfl⟩ | ⟨n, ej⟩
    · exact ⟨p, xs ++ v, e1, upd_same, ⟨f3, f4⟩, (hr.app r).keeps kp id0⟩
    · have hs := R.fr j s ej
      cases s with
      | un => trivial
      | sh d => obtain ⟨u, ev, r⟩ := hs; exact ⟨u, ev, r.keeps kp id0⟩
      | ow l2 =>
        obtain ⟨c, zs, k1, k2, k3, k4⟩ := hs
        exact ⟨c, zs, k1, (upd_ne (fun q => n (R.inj i j _ _ p e ej e1 (by rw [← q]; exact k1)))).trans k2, k3, k4.keeps kp id0⟩
  · have g1' : ∃ l, es[j]? = some (.ow l) := by
      rcases set_get g1 with ⟨rfl, hl, _⟩ | ⟨n, g⟩
      · exact ⟨_, e⟩
      · exact ⟨_, g⟩
    have g2' : ∃ l, es[j']? = some (.ow l) := by
      rcases set_get g2 with ⟨rfl, hl, _⟩ | ⟨n, g⟩
      · exact ⟨_, e⟩
      · exact ⟨_, g⟩
    obtain ⟨_, g1'⟩ := g1'
    obtain ⟨_, g2'⟩ := g2'
    exact R.inj j j' _ _ a g1' g2' h3 h4
  · by_cases q : a = p
    · subst q; rw [upd_same] at z; cases z
    · rw [upd_ne q] at z; exact z
theorem Rs.put (R : Rs K w O0 H0 O es σ H) {i : Nat} {p : Addr} {xs ys0 : List V} {l l0 : List D} (e : es[i]? = some (.ow l)) (e1 : σ[i]? = some (some (.ref p))) (h1 : H p = some (.lst xs)) (hr : RoAll K w O H ys0 l0) :
    Rs K w O0 H0 O (es.set i (.ow l0)) σ (upd H p (.lst ys0)) ∧ Stp O H O (upd H p (.lst ys0)) := by
  obtain ⟨b, ys, f1, f2, ⟨f3, f4⟩, f5⟩ := R.fr i _ e
  rw [e1] at f1
  cases f1
  have h0 : H0 p = none := (R.new p f3).elim (fun z => absurd z f4) id
  have kp : Keeps O H (upd H p (.lst ys0)) := by
    refine ⟨fun a xs e n => ?_, fun a xs e => ?_, fun a o u e => ?_, fun a φ e => ?_, fun a fs e => ?_⟩
    · rw [upd_ne (fun z => n (by rw [z]; exact f3))]; exact e
    · rw [upd_ne (fun z => by rw [z, h1] at e; cases e)]; exact e
    · rw [upd_ne (fun z => by rw [z, h1] at e; cases e)]; exact e
    · rw [upd_ne (fun z => by rw [z, h1] at e; cases e)]; exact e
    · rw [upd_ne (fun z => by rw [z, h1] at e; cases e)]; exact e
  have id0 : ∀ a, O a → O a ∨ H a = none := fun _ z => .inl z
  refine ⟨⟨fun a z => ?_, R.sub, R.new, fun a o z => ?_, fun j s ej => ?_, fun j j' l1 l2 a g1 g2 h3 h4 => ?_, by simp [R.len]⟩, ⟨kp, id0, fun a z => ?_⟩⟩
  · by_cases q : a = p
    · subst q; exact ⟨_, upd_same⟩
    · rw [upd_ne q]; exact R.ok a z
  · rw [upd_ne (fun q => by rw [q, h0] at z; cases z)]; exact R.k0 a o z
  · rcases set_get ej with ⟨rfl, hl, rfl⟩ | ⟨n, ej⟩
    · exact ⟨p, ys0, e1, upd_same, ⟨f3, f4⟩, hr.keeps kp id0⟩
    · have hs := R.fr j s ej
      cases s with
      | un => trivial
      | sh d => obtain ⟨u, ev, r⟩ := hs; exact ⟨u, ev, r.keeps kp id0⟩
      | ow l2 =>
        obtain ⟨c, zs, k1, k2, k3, k4⟩ := hs
        exact ⟨c, zs, k1, (upd_ne (fun q => n (R.inj i j _ _ p e ej e1 (by rw [← q]; exact k1)))).trans k2, k3, k4.keeps kp id0⟩
  · have g1' : ∃ l, es[j]? = some (.ow l) := by
      rcases set_get g1 with ⟨rfl, hl, _⟩ | ⟨n, g⟩
      · exact ⟨_, e⟩
      · exact ⟨_, g⟩
    have g2' : ∃ l, es[j']? = some (.ow l) := by
      rcases set_get g2 with ⟨rfl, hl, _⟩ | ⟨n, g⟩
      · exact ⟨_, e⟩
      · exact ⟨_, g⟩
    obtain ⟨_, g1'⟩ := g1'
    obtain ⟨_, g2'⟩ := g2'
    exact R.inj j j' _ _ a g1' g2' h3 h4
  · by_cases q : a = p
    · subst q; rw [upd_same] at z; cases z
    · rw [upd_ne q] at z; exact z
/-- after a store by a target -/
theorem asgN_ow {N : List Str} {x : Str} {p : Pos} {d : D} (e : asgN N es x d = some es') : es'.length = es.length ∧ ∀ (i : Nat) (l : List D), es'[i]? = some (.ow l) → es[i]? = some (.ow l) ∧ i ∉ namesIx N [.Name x p] := by
  unfold asgN at e
  obtain ⟨j, e1, e2⟩ := bind_some e
  cases e2
  refine ⟨by simp [setSl], fun i l h => ?_⟩
  rcases set_get h with ⟨rfl, hl, z⟩ | ⟨n, h⟩
  · cases z
  · refine ⟨h, ?_⟩
    simp only [namesIx, e1]
    simp
    exact fun z => n z.symm
theorem asgs_ow {N : List Str} : ∀ {ts : List Expr} {ds : List D} {es es' : List Sl}, asgs N ts ds es = some es' → es'.length = es.length ∧ ∀ (i : Nat) (l : List D), es'[i]? = some (.ow l) → es[i]? = some (.ow l) ∧ i ∉ namesIx N ts
  | ts, ds, es, es', e => by
    unfold asgs at e
    split at e
    · cases e
      exact ⟨rfl, fun i l h => ⟨h, by simp [namesIx]⟩⟩
    · rename_i x p ts d ds
      obtain ⟨es1, e1, e2⟩ := bind_some e
      obtain ⟨l2, k2⟩ := asgs_ow e2
      obtain ⟨l1, k1⟩ := asgN_ow (p := p) e1
      refine ⟨l2.trans l1, fun i l h => ?_⟩
      obtain ⟨a1, a2⟩ := k2 i l h
      obtain ⟨b1, b2⟩ := k1 i l a1
      refine ⟨b1, ?_⟩
      simp only [namesIx] at b2 ⊢
      split
      · rename_i j hj
        rw [hj] at b2
        simp at b2 ⊢
        exact ⟨b2, a2⟩
      · exact a2
    · cases e
theorem asg_ow {N : List Str} {t : Expr} {d : D} (e : asg N es t d = some es') : es'.length = es.length ∧ ∀ (i : Nat) (l : List D), es'[i]? = some (.ow l) → es[i]? = some (.ow l) ∧ i ∉ tgIx N t := by
  unfold asg at e
  split at e
  · rename_i x p
    exact asgN_ow (p := p) e
  · split at e
    · exact asgs_ow e
    · exact asgs_ow e
    · cases e
  · cases e
theorem Rs.store {N : List Str} {t : Expr} {d : D} (R : Rs K w O0 H0 O es σ H) (e : asg N es t d = some es') (s : Same H H') (hl : σ'.length = σ.length) (hk : ∀ j, j ∉ tgIx N t → σ'[j]? = σ[j]?) (F : Fr K w O (fun a => ¬ O0 a) es' σ' H') : Rs K w O0 H0 O es' σ' H' := by
  obtain ⟨l1, k1⟩ := asg_ow e
  refine ⟨R.ok.same s, R.sub, R.new, R.k0.trans s, F, fun i j l l' a g1 g2 h1 h2 => ?_, by rw [hl, R.len, l1]⟩
  obtain ⟨a1, a2⟩ := k1 i l g1
  obtain ⟨b1, b2⟩ := k1 j l' g2
  rw [hk i a2] at h1
  rw [hk j b2] at h2
  exact R.inj i j l l' a a1 b1 h1 h2
end
/-! ### the reading of statements -/
def FlK (K : PySem.W.Frag) (w : World) (O0 : Addr → Prop) (H0 : Hp) (D0 : Ends) (O : Addr → Prop) (H : Hp) : Fl → Prop
  | .next es => ∀ O' σ' H', Stp O H O' H' → Rs K w O0 H0 O' es σ' H' → D0.nx σ' H'
  | .brk es => ∀ O' σ' H', Stp O H O' H' → Rs K w O0 H0 O' es σ' H' → D0.bk σ' H'
  | .cont es => ∀ O' σ' H', Stp O H O' H' → Rs K w O0 H0 O' es σ' H' → D0.ct σ' H'
  | .ret d => ∀ v H', Same H0 H' → Ro K w O0 H' v d → D0.rt v H'
def tS (K : PySem.W.Frag) (w : World) (O0 : Addr → Prop) (H0 : Hp) (f : List Sl → Option Fl) : TS := fun D σ H => ∃ O es fl, Rs K w O0 H0 O es σ H ∧ f es = some fl ∧ FlK K w O0 H0 D O H fl
theorem FlK.pre {K : PySem.W.Frag} {w : World} {O0 : Addr → Prop} {H0 : Hp} {D : Ends} {O O1 : Addr → Prop} {H H1 : Hp} {fl : Fl} (s : Stp O H O1 H1) (h : FlK K w O0 H0 D O H fl) : FlK K w O0 H0 D O1 H1 fl := by
  cases fl with
  | next es => exact fun O' σ' H' s' R => h O' σ' H' (s.trans s') R
  | brk es => exact fun O' σ' H' s' R => h O' σ' H' (s.trans s') R
  | cont es => exact fun O' σ' H' s' R => h O' σ' H' (s.trans s') R
  | ret d => exact h
abbrev SSt (X : Cx) (O0 : Addr → Prop) (H0 : Hp) (st : Stmt) (f : List Sl → Option Fl) : Prop := PS X st (tS X.K X.w O0 H0 f)
abbrev SSs (X : Cx) (O0 : Addr → Prop) (H0 : Hp) (st : List Stmt) (f : List Sl → Option Fl) : Prop := PSs X st (tS X.K X.w O0 H0 f)
theorem _root_.L2.PS.imp {X : Cx} {e : Stmt} {t t' : TS} (h : PS X e t) (hi : ∀ D σ H, t' D σ H → t D σ H) : PS X e t' := ⟨fun pins s σ H D I hq => h.run pins s σ H D I (hi _ _ _ hq)⟩
theorem _root_.L2.PSs.imp {X : Cx} {e : List Stmt} {t t' : TS} (h : PSs X e t) (hi : ∀ D σ H, t' D σ H → t D σ H) : PSs X e t' := ⟨fun pins s σ H D I hq => h.run pins s σ H D I (hi _ _ _ hq)⟩
section
variable {X : Cx} {O0 : Addr → Prop} {H0 : Hp} {e t it : Expr} {a b body : List Stmt} {st : Stmt} {pos p : Pos} {f : List Sl → Option D} {g : List Sl → Option Bool} {fa fb : List Sl → Option Fl} {xs : List Str} {N : List Str}
theorem ss_ret (h : SE X false e f) : SSt X O0 H0 (.Return (some e) pos) fun σ => (f (σ.map Sl.share)).map .ret := by
  refine (ps_ret h).imp fun D σ H ⟨O, es, fl, R, e0, q⟩ => ?_
  obtain ⟨d, e1, rfl⟩ := Option.map_eq_some_iff.mp e0
  exact ⟨O0, _, _, d, R.ok0, R.shareAll, e1, fun H' v s r => q v H' (R.k0.trans s) r.no⟩
theorem ss_retN : SSt X O0 H0 (.Return none pos) fun σ => some (.ret .none) := by
  refine ps_retN.imp fun D σ H ⟨O, es, fl, R, e0, q⟩ => ?_
  cases e0
  exact q .non H R.k0 .non
theorem ss_next (h : PS X st tNext) : SSt X O0 H0 st fun σ => some (.next σ) := by
  refine h.imp fun D σ H ⟨O, es, fl, R, e0, q⟩ => ?_
  cases e0
  exact q O σ H .refl R
theorem ss_break : SSt X O0 H0 (.Break pos) fun σ => some (.brk σ) := by
  refine ps_break.imp fun D σ H ⟨O, es, fl, R, e0, q⟩ => ?_
  cases e0
  exact q O σ H .refl R
theorem ss_cont : SSt X O0 H0 (.Continue pos) fun σ => some (.cont σ) := by
  refine ps_continue.imp fun D σ H ⟨O, es, fl, R, e0, q⟩ => ?_
  cases e0
  exact q O σ H .refl R
theorem ss_if (h : ST X e g) (ha : SSs X O0 H0 a fa) (hb : SSs X O0 H0 b fb) : SSt X O0 H0 (.If e a b pos) fun σ => (g (shareN N xs σ)).bind fun k => cond k (fa (shareN N xs σ)) (fb (shareN N xs σ)) := by
  refine (ps_if h ha hb).imp fun D σ H ⟨O, es, fl, R, e0, q⟩ => ?_
  obtain ⟨k, e1, e2⟩ := bind_some e0
  obtain ⟨O1, R1, s1⟩ := R.shareN (N := N) xs
  refine ⟨O1, _, _, k, R1.ok, R1.fr, e1, fun H' s => ?_⟩
  cases k with
  | true => exact ⟨O1, _, fl, R1.same s, e2, q.pre (s1.trans (.same s))⟩
  | false => exact ⟨O1, _, fl, R1.same s, e2, q.pre (s1.trans (.same s))⟩
theorem sss_nil : SSs X O0 H0 [] fun σ => some (.next σ) := by
  refine pss_nil.imp fun D σ H ⟨O, es, fl, R, e0, q⟩ => ?_
  cases e0
  exact q O σ H .refl R
theorem sss_cons {r : List Stmt} (h1 : SSt X O0 H0 st fa) (h2 : SSs X O0 H0 r fb) : SSs X O0 H0 (st :: r) fun σ => (fa σ).bind fun
    | .next σ' => fb σ'
    | f => some f := by
  refine (pss_cons h1 h2).imp fun D σ H ⟨O, es, fl, R, e0, q⟩ => ?_
  obtain ⟨f1, e1, e2⟩ := bind_some e0
  refine ⟨O, es, f1, R, e1, ?_⟩
  cases f1 with
  | next es1 => exact fun O' σ' H' s' R' => ⟨O', es1, fl, R', e2, q.pre s'⟩
  | brk es1 => cases e2; exact q
  | cont es1 => cases e2; exact q
  | ret d => cases e2; exact q
theorem ss_set {i : Nat} {x : Str} (h : PS X (.Assign [.Name x p] e pos) (tAsg (tE X.K X.w false f) (gName i))) :
    SSt X O0 H0 (.Assign [.Name x p] e pos) fun σ => (f (shareN N xs σ)).bind fun d => some (.next (setOw (shareN N xs σ) i false d)) := by
  refine h.imp fun D σ H ⟨O, es, fl, R, e0, q⟩ => ?_
  obtain ⟨d, e1, e2⟩ := bind_some e0
  cases e2
  obtain ⟨O1, R1, s1⟩ := R.shareN (N := N) xs
  refine ⟨O1, _, _, d, R1.ok, R1.fr, e1, fun H' v s r => ?_⟩
  have R2 := (R1.same s).setSh (i := i) r.no
  refine q O1 _ H' (s1.trans (.same s)) ?_
  unfold setOw
  cases d <;> exact R2
theorem ss_setcat {i : Nat} {x : Str} {e1 e2 : Expr} {p1 : Pos} {f1 f2 : List Sl → Option D} (h : PS X (.Assign [.Name x p] (.BinOp e1 .Add e2 p1) pos) (tAsg (tOp (rAddF X.K X.w) (tE X.K X.w true f1) (tE X.K X.w true f2)) (gName i))) :
    SSt X O0 H0 (.Assign [.Name x p] (.BinOp e1 .Add e2 p1) pos) fun σ => ((f1 (shareN N xs σ)).bind fun d1 => (f2 (shareN N xs σ)).bind fun d2 => binD .Add d1 d2).bind fun d => some (.next (setOw (shareN N xs σ) i true d)) := by
  refine h.imp fun D σ H ⟨O, es, fl, R, e0, q⟩ => ?_
  obtain ⟨d, e1, e2⟩ := bind_some e0
  obtain ⟨d1, e3, e1⟩ := bind_some e1
  obtain ⟨d2, e4, e1⟩ := bind_some e1
  cases e2
  obtain ⟨O1, R1, s1⟩ := R.shareN (N := N) xs
  refine ⟨O1, _, _, d1, R1.ok, R1.fr, e3, fun H1 v a1 r1 => ⟨O1, _, _, d2, R1.ok.same a1, R1.fr.same a1, e4, fun H2 u a2 r2 => ?_⟩⟩
  have R2 := R1.same (a1.trans a2)
  refine ⟨O1, true, d1, d2, d, R2.ok, r1.same a2, r2, e1, fun H' v s r nl => ?_, fun l p' ys hd hp r => ?_⟩
  · have R3 := (R2.same s).setSh (i := i) r
    refine q O1 _ H' (s1.trans (.same ((a1.trans a2).trans s))) ?_
    unfold setOw
    cases d with
    | list l => exact absurd rfl (nl l)
    | _ => exact R3
  · subst hd
    have sm : Same H2 (upd H2 p' (.lst ys)) := same_upd hp
    have rr : RoAll X.K X.w (fun a => O1 a ∨ a = p') (upd H2 p' (.lst ys)) ys l := r.keeps (Same.keeps sm) fun a z => z.imp id fun e => by rw [e]; exact hp
    obtain ⟨R3, s3⟩ := R2.setOw (i := i) sm hp upd_same rr
    exact q _ _ _ (s1.trans ((Stp.same (a1.trans a2)).trans s3)) R3
theorem ss_setF {i : Nat} {x : Str} (h : PS X (.Assign [.Name x p] e pos) (tAsg (tF X.K X.w f) (gName i))) :
    SSt X O0 H0 (.Assign [.Name x p] e pos) fun σ => (f (shareN N xs σ)).bind fun d => some (.next (setOw (shareN N xs σ) i true d)) := by
  refine h.imp fun D σ H ⟨O, es, fl, R, e0, q⟩ => ?_
  obtain ⟨d, e1, e2⟩ := bind_some e0
  cases e2
  obtain ⟨O1, R1, s1⟩ := R.shareN (N := N) xs
  refine ⟨O1, _, _, d, R1.ok, R1.fr, e1, fun H' p' ys ds s hp h1 hd r => ?_⟩
  subst hd
  obtain ⟨R2, s2⟩ := R1.setOw (i := i) s hp h1 r
  exact q _ _ H' (s1.trans s2) R2
theorem ss_asgT {vs : List Nat} (hv : vs = tgIx N t) (h : PS X (.Assign [t] e pos) (tAsg (tE X.K X.w false f) (tG X.K X.w vs fun es d => asg N es t d))) :
    SSt X O0 H0 (.Assign [t] e pos) fun σ => (f (shareN N xs σ)).bind fun d => (asg N (shareN N xs σ) t d).map .next := by
  subst hv
  refine h.imp fun D σ H ⟨O, es, fl, R, e0, q⟩ => ?_
  obtain ⟨d, e1, e2⟩ := bind_some e0
  obtain ⟨es2, e3, rfl⟩ := Option.map_eq_some_iff.mp e2
  obtain ⟨O1, R1, s1⟩ := R.shareN (N := N) xs
  refine ⟨O1, _, _, d, R1.ok, R1.fr, e1, fun H' v s r => ?_⟩
  refine ⟨O1, _, _, d, es2, R1.ok.same s, R1.fr.same s, r.no, e3, fun σ' H2 s2 l2 k2 F2 => ?_⟩
  exact q O1 σ' H2 (s1.trans (.same (s.trans s2))) ((R1.same s).store e3 s2 l2 k2 F2)
theorem ss_drop (h : SE X false e f) (hs : swapsWith e none pos.line X.env = pure false) : SSt X O0 H0 (.Expr e pos) fun σ => (f (shareN N xs σ)).bind fun _ => some (.next (shareN N xs σ)) := by
  refine (ps_expr h hs).imp fun D σ H ⟨O, es, fl, R, e0, q⟩ => ?_
  obtain ⟨d, e1, e2⟩ := bind_some e0
  cases e2
  obtain ⟨O1, R1, s1⟩ := R.shareN (N := N) xs
  exact ⟨O1, _, _, d, R1.ok, R1.fr, e1, fun H' v s r => q O1 σ H' (s1.trans (.same s)) (R1.same s)⟩
theorem ss_app {i : Nat} {x m : Str} {ap : Pos} (hx : PE X (.Name x p) (tVar i)) (hm : m = "append") (hs : isStar e = false) (h : SE X false e f)
    (hb : attributeBase (.Name x p) m X.env (eval (.Name x p) X.env) = eval (.Name x p) X.env) (hl : (ap.endLine == pos.line) = true) {pp : Pos} :
    SSt X O0 H0 (.Expr (.Call (.Attribute (.Name x p) m ap) [e] [] pos) pp) fun σ => (f (shareN N xs σ)).bind fun d => match (shareN N xs σ)[i]? with
          | some (.ow l) => cond (decide (l.length < few)) (some (.next ((shareN N xs σ).set i (.ow (l ++ [d]))))) none
          | _ => none := by
  subst hm
  have hst : ∀ es, starEach (e :: es) X.env = (false, eval e X.env) :: starEach es X.env := fun es => starEach_cons (star_no hs) _
  have hp : PE X (.Call (.Attribute (.Name x p) "append" ap) [e] [] pos) (tBM X.K "list" rAppend (tVar i) (tA X.K X.w false fun σ => (f σ).bind fun d => some [d])) := by
    refine pe_bm PySem.F.plainAttrs_list PySem.F.slot_list_append PySem.F.type_list_append mt_append hx (sa_cons (star_no hs) h sa_nil) hb ?_ hl (hst []) rfl
    rw [hst []]; rfl
  refine (ps_expr hp).imp fun D σ H ⟨O, es, fl, R, e0, q⟩ => ?_
  obtain ⟨d, e1, e2⟩ := bind_some e0
  obtain ⟨O1, R1, s1⟩ := R.shareN (N := N) xs
  split at e2
  · rename_i l hi
    obtain ⟨c, e2⟩ := cond_some e2
    cases e2
    obtain ⟨a, ys, f1, f2, f3, f4⟩ := R1.fr i _ hi
    refine ⟨.ref a, f1, .inl ⟨rfl, ys, .inl (.inl f2)⟩, ?_⟩
    refine ⟨O1, _, _, [d], R1.ok, R1.fr, by show (f (EV.shareN N xs es)).bind _ = _; rw [e1]; rfl, fun H' vs s r => ?_⟩
    cases r with
    | cons r1 r2 =>
      cases r2
      have hlen : ys.length < sizeLine := by
        have := of_decide_eq_true c
        have hf := few_line
        rw [f4.length]; omega
      refine ⟨a, ys, _, rfl, rfl, s _ _ f2, hlen, ?_⟩
      obtain ⟨R2, s2⟩ := (R1.same s).grow hi f1 (s _ _ f2) (f4.same s) (.cons r1.no .nil)
      exact q O1 σ _ (s1.trans ((Stp.same s).trans s2)) R2
  · cases e2
theorem RoAll.setAt {K : PySem.W.Frag} {w : World} {O : Addr → Prop} {H : Hp} {v : V} {d : D} (h : Ro K w O H v d) : ∀ {vs : List V} {ds : List D} (j : Nat), RoAll K w O H vs ds → RoAll K w O H (vs.set j v) (ds.set j d)
  | _, _, _, .nil => .nil
  | _, _, 0, .cons _ t => .cons h t
  | _, _, j + 1, .cons g t => .cons g (RoAll.setAt h j t)
theorem ss_setit {i : Nat} {x : Str} {j : Int} {kj : Nat} {cp sp : Pos} (hx : PE X (.Name x p) (tVar i)) (h : SE X false e f) :
    SSt X O0 H0 (.Assign [.Subscript (.Name x p) (.Constant (.int j) kj cp) sp] e pos) fun σ => (f (shareN N xs σ)).bind fun d => match (shareN N xs σ)[i]? with
          | some (.ow l) => (ixN l.length j).bind fun k => some (.next ((shareN N xs σ).set i (.ow (l.set k d))))
          | _ => none := by
  refine (ps_asg h (pg_sub hx (pe_int (i := j) (j := kj) (pos := cp)) L2.set_list) (by cases e <;> rfl) (by cases e <;> rfl)).imp fun D σ H ⟨O, es, fl, R, e0, q⟩ => ?_
  obtain ⟨d, e1, e2⟩ := bind_some e0
  obtain ⟨O1, R1, s1⟩ := R.shareN (N := N) xs
  split at e2
  · rename_i l hi
    obtain ⟨k, e3, e4⟩ := bind_some e2
    cases e4
    obtain ⟨a, ys, f1, f2, f3, f4⟩ := R1.fr i _ hi
    refine ⟨O1, _, _, d, R1.ok, R1.fr, e1, fun H' v s r => ?_⟩
    refine ⟨.ref a, f1, a, ys, j, k, rfl, rfl, s _ _ f2, by rw [f4.length]; exact e3, ?_⟩
    obtain ⟨R2, s2⟩ := (R1.same s).put hi f1 (s _ _ f2) (RoAll.setAt r.no k (f4.same s))
    exact q O1 σ _ (s1.trans ((Stp.same s).trans s2)) R2
  · cases e2
theorem ss_ext {i : Nat} {x m : Str} {ap : Pos} (hx : PE X (.Name x p) (tVar i)) (hm : m = "extend") (hs : isStar e = false) (h : SF X e f)
    (hb : attributeBase (.Name x p) m X.env (eval (.Name x p) X.env) = eval (.Name x p) X.env) (hl : (ap.endLine == pos.line) = true) {pp : Pos} :
    SSt X O0 H0 (.Expr (.Call (.Attribute (.Name x p) m ap) [e] [] pos) pp) fun σ => (f (shareN N xs σ)).bind fun d => match (shareN N xs σ)[i]?, d with
          | some (.ow l), .list ds => cond (decide (l.length + ds.length ≤ few)) (some (.next ((shareN N xs σ).set i (.ow (l ++ ds))))) none
          | _, _ => none := by
  subst hm
  have hst : ∀ es, starEach (e :: es) X.env = (false, eval e X.env) :: starEach es X.env := fun es => starEach_cons (star_no hs) _
  have hp : PE X (.Call (.Attribute (.Name x p) "extend" ap) [e] [] pos) (tBM X.K "list" rExtend (tVar i) (tCons (tF X.K X.w f) tNil)) := by
    refine pe_bm PySem.F.plainAttrs_list PySem.F.slot_list_extend PySem.F.type_list_extend mt_extend hx (pa_cons h pa_nil (hst [])) hb ?_ hl (hst []) rfl
    rw [hst []]; rfl
  refine (ps_expr hp).imp fun D σ H ⟨O, es, fl, R, e0, q⟩ => ?_
  obtain ⟨d, e1, e2⟩ := bind_some e0
  obtain ⟨O1, R1, s1⟩ := R.shareN (N := N) xs
  split at e2
  · rename_i l ds hi
    obtain ⟨c, e2⟩ := cond_some e2
    cases e2
    obtain ⟨a, ys, f1, f2, f3, f4⟩ := R1.fr i _ hi
    refine ⟨.ref a, f1, .inl ⟨rfl, ys, .inl (.inl f2)⟩, ?_⟩
    refine ⟨O1, _, _, _, R1.ok, R1.fr, e1, fun H' p' zs ds' s hp' h1 hd r => ?_⟩
    cases hd
    have r' : RoAll X.K X.w O1 H' zs ds := r.less fun a z => .inl z
    have hlen : ys.length + zs.length ≤ sizeLine := by
      have := of_decide_eq_true c
      have hf := few_line
      rw [f4.length, r'.length]; omega
    refine ⟨a, p', ys, zs, rfl, rfl, s _ _ f2, h1, hlen, ?_⟩
    obtain ⟨R2, s2⟩ := (R1.same s).grow hi f1 (s _ _ f2) (f4.same s) r'
    exact q O1 σ _ (s1.trans ((Stp.same s).trans s2)) R2
  · cases e2
/-- a, b = x, y: stored from the right -/
theorem ss_par {i j : Nat} {x y : Str} {e1 e2 : Expr} {px py pt : Pos} {kt k2 pt2} {fs : List Sl → Option (List D)} (hij : i ≠ j) (h : PS X (.Assign [.Tuple [.Name x px, .Name y py] kt pt] (.Tuple [e1, e2] k2 pt2) pos) (tPar i j (tA X.K X.w false fs))) :
    SSt X O0 H0 (.Assign [.Tuple [.Name x px, .Name y py] kt pt] (.Tuple [e1, e2] k2 pt2) pos) fun σ => (fs (shareN N xs σ)).bind fun ds => match ds with
      | [d1, d2] => some (.next (((shareN N xs σ).set i (.sh d1)).set j (.sh d2)))
      | _ => none := by
  refine h.imp fun D σ H ⟨O, es, fl, R, e0, q⟩ => ?_
  obtain ⟨ds, e1, e2⟩ := bind_some e0
  obtain ⟨O1, R1, s1⟩ := R.shareN (N := N) xs
  split at e2
  · rename_i d1 d2
    cases e2
    refine ⟨O1, _, _, _, R1.ok, R1.fr, e1, fun H' vs s r => ?_⟩
    cases r with | cons r1 r =>
    cases r with | cons r2 r =>
    cases r
    exact ⟨_, _, rfl, q O1 _ H' (s1.trans (.same s)) (((R1.same s).setSh r1.no).setSh r2.no)⟩
  · cases e2
theorem ss_for {tg : Expr} {fi : List Sl → Option (List D)} {vs : List Nat} (hv : vs = tgIx N tg) (hp : PassesOwn (model X.prog X.w) X.A X.env X.xe) (hc : X.calm = true) (hi : SI X false tg it fi) (hg : SG X vs tg fun es d => asg N es tg d) (hb : SSs X O0 H0 body fb)
    (hs : ∀ x, foldedSetIterable it X.env x = pure x) : SSt X O0 H0 (.For tg it body [] pos) fun σ => (fi (shareN N xs σ)).bind fun ys => forL (fun σ x => asg N σ tg x) fb ys (shareN N xs σ) := by
  subst hv
  refine (ps_for hp hc hi hg hb hs).imp fun D σ H ⟨O, es, fl, R, e0, q⟩ => ?_
  obtain ⟨ys, e1, e2⟩ := bind_some e0
  obtain ⟨O1, R1, s1⟩ := R.shareN (N := N) xs
  refine ⟨O1, _, _, ys, R1.ok, R1.fr, e1, fun J H1 sH Y => ?_⟩
  have q1 := q.pre (s1.trans (.same sH))
  refine ⟨fun i m σ2 H2 => ∃ O2 es2, m = ys.length - i ∧ i ≤ ys.length ∧ Stp O1 H1 O2 H2 ∧ Rs X.K X.w O0 H0 O2 es2 σ2 H2 ∧ forL (fun σ x => asg N σ tg x) fb (ys.drop i) es2 = some fl, ⟨_, O1, _, rfl, Nat.zero_le _, .refl, R1.same sH, e2⟩, ?_⟩
  rintro i m σ2 H2 ⟨O2, es2, rfl, hi, s2, R2, c2⟩
  have kz : Keeps (fun a => false = false ∧ O1 a) H1 H2 := ⟨fun a xs e n => s2.k.l a xs e fun z => n ⟨rfl, z⟩, s2.k.t, s2.k.f, s2.k.e, s2.k.x⟩
  by_cases hlt : i < ys.length
  · rw [drop_at hlt] at c2
    refine .inr ⟨(Y.go H2 i ys[i] kz (List.getElem?_eq_getElem hlt)).1, fun σ3 H3 => ∃ O3 es3, i + 1 ≤ ys.length ∧ Stp O1 H1 O3 H3 ∧ Rs X.K X.w O0 H0 O3 es3 σ3 H3 ∧ forL (fun σ x => asg N σ tg x) fb (ys.drop (i + 1)) es3 = some fl,
      fun σ3 H3 ⟨O3, es3, a1, a2, a3, a4⟩ => ⟨ys.length - (i + 1), by omega, O3, es3, rfl, a1, a2, a3, a4⟩, fun x H3 y => ?_⟩
    obtain ⟨sm, rx⟩ := (Y.go H2 i ys[i] kz (List.getElem?_eq_getElem hlt)).2 x H3 y
    have rx := rx O2 s2.o s2.k
    replace s2 := s2.trans (.same sm)
    replace R2 := R2.same sm
    obtain ⟨es3, c3, c4⟩ := bind_some (show (asg N es2 tg ys[i]).bind _ = some fl from c2)
    obtain ⟨fl2, c5, c6⟩ := bind_some c4
    refine ⟨O2, _, es2, ys[i], es3, R2.ok, R2.fr, rx, c3, fun σ4 H4 s4 l4 k4 F4 => ?_⟩
    have R4 := R2.store c3 s4 l4 k4 F4
    have s14 : Stp O1 H1 O2 H4 := s2.trans (.same s4)
    refine ⟨O2, es3, fl2, R4, c5, ?_⟩
    cases fl2 with
    | next es5 => exact fun O5 σ5 H5 s5 R5 => ⟨O5, es5, hlt, s14.trans s5, R5, c6⟩
    | cont es5 => exact fun O5 σ5 H5 s5 R5 => ⟨O5, es5, hlt, s14.trans s5, R5, c6⟩
    | brk es5 => cases c6; exact fun O5 σ5 H5 s5 R5 => q1 O5 σ5 H5 (s14.trans s5) R5
    | ret d => cases c6; exact q1
  · have hi' : i = ys.length := by omega
    subst hi'
    refine .inl ⟨Y.stop H2 kz, ?_⟩
    rw [List.drop_length] at c2
    cases c2
    exact q1 O2 σ2 H2 s2 R2
theorem ss_while (hp : PassesOwn (model X.prog X.w) X.A X.env X.xe) (h : ST X e g) (hb : SSs X O0 H0 body fb) {n : Nat} : SSt X O0 H0 (.While e body [] pos) fun σ => whileL g fb n (shareN N xs σ) := by
  refine (ps_while hp h hb).imp fun D σ H ⟨O, es, fl, R, e0, q⟩ => ?_
  obtain ⟨O1, R1, s1⟩ := R.shareN (N := N) xs
  have q1 := q.pre s1
  refine ⟨fun m σ2 H2 => ∃ O2 es2, Stp O1 H O2 H2 ∧ Rs X.K X.w O0 H0 O2 es2 σ2 H2 ∧ whileL g fb m es2 = some fl, ⟨n, O1, _, .refl, R1, e0⟩, ?_⟩
  rintro m σ2 H2 ⟨O2, es2, s2, R2, c2⟩
  cases m with
  | zero => cases c2
  | succ m =>
    obtain ⟨k, c3, c4⟩ := bind_some (show (g es2).bind _ = some fl from c2)
    refine ⟨O2, _, es2, k, R2.ok, R2.fr, c3, fun H3 s3 => ?_⟩
    cases k with
    | false =>
      cases c4
      exact q1 O2 σ2 H3 (s2.trans (.same s3)) (R2.same s3)
    | true =>
      obtain ⟨fl2, c5, c6⟩ := bind_some c4
      simp only [if_true]
      refine ⟨fun σ3 H3 => ∃ O3 es3, Stp O1 H O3 H3 ∧ Rs X.K X.w O0 H0 O3 es3 σ3 H3 ∧ whileL g fb m es3 = some fl, fun σ3 H3 z => ⟨m, Nat.lt_succ_self m, z⟩, O2, es2, fl2, R2.same s3, c5, ?_⟩
      have s13 : Stp O1 H O2 H3 := s2.trans (.same s3)
      cases fl2 with
      | next es5 => exact fun O5 σ5 H5 s5 R5 => ⟨O5, es5, s13.trans s5, R5, c6⟩
      | cont es5 => exact fun O5 σ5 H5 s5 R5 => ⟨O5, es5, s13.trans s5, R5, c6⟩
      | brk es5 => cases c6; exact fun O5 σ5 H5 s5 R5 => q1 O5 σ5 H5 (s13.trans s5) R5
      | ret d => cases c6; exact q1
end
end EV

namespace EV
open PySem PySem.Spec PyProof.Rows L2
def yes : Str → Bool := fun _ => true
/-- is the name's old value let go before the list is stored? -/
def swB (names : List (Str × NameKind)) (x : Str) (p : Pos) : Expr → Bool
  | .ListComp _ _ scope lp => names.lookup x == some .local && p.line == lp.line && !(scope.names.any fun (n, k) => n == x && (k == .local || k == .cell))
  | _ => false
/-- two names of the def's own, stored from the right -/
def parB (names : List (Str × NameKind)) (es : List Expr) (e : Expr) : Bool := match es, e with
  | [.Name x px, .Name y py], .Tuple [a, b] _ _ => (decide (names.lookup x = some .local) && (decide (names.lookup y = some .local) && (px.line == py.line && !(x == y)))) &&
    ((!isStar a && !isStar b) && (!([a, b].all (foldedForSure 8)) && !([a, b].all (constantsAlone 8))))
  | _, _ => false
/-- some name is not the def's own alone: stored from the left -/
def nswB (names : List (Str × NameKind)) (es : List Expr) : Bool := es.any fun e => match e with
  | .Name x _ => !(decide (names.lookup x = some .local))
  | _ => true
mutual
def ckS (N fns : List Str) : Nat → Scope → Stmt → Bool
  | 0, _, _ => false
  | n + 1, sc, st =>
    match st with
    | .Return (some e) _ => ckE N fns ED sc yes e
    | .Return none _ => true
    | .Pass _ => true
    | .Break _ => true
    | .Continue _ => true
    | .Expr (.Constant (.str _) _ _) _ => true
    | .Expr (.Call (.Attribute (.Name x _) m ap) [a] [] p) _ => (decide (m = "append") || decide (m = "extend")) && ((locB sc.names x && okX x) && ((!isStar a && ckE N fns ED sc yes a) && (ap.endLine == p.line)))
    | .Expr (.Call (.Name f p) as [] q) _ => ckE N fns ED sc yes (.Call (.Name f p) as [] q)
    | .Assign [.Name x _] e _ => storeB sc.names yes x && ckE N fns ED sc yes e
    | .Assign [.Subscript (.Name x _) (.Constant (.int _) _ _) _] e _ => (locB sc.names x && okX x) && ckE N fns ED sc yes e
    | .Assign [.Tuple es k p] e _ => (ckTg sc.names yes (.Tuple es k p) && ckE N fns ED sc yes e) && cond (isTup e) (parB sc.names es e || nswB sc.names es) true
    | .If t a b _ => ckE N fns ED sc yes t && (ckSs N fns n sc a && ckSs N fns n sc b)
    | .For t it body [] _ => ckI N fns ED sc yes t it && (ckTg sc.names yes t && ckSs N fns n sc body)
    | .While t body [] _ => ckE N fns ED sc yes t && ckSs N fns n sc body
    | .Raise _ _ _ => true
    | _ => false
def ckSs (N fns : List Str) : Nat → Scope → List Stmt → Bool
  | 0, _, _ => false
  | _ + 1, _, [] => true
  | n + 1, sc, st :: r => ckS N fns n sc st && ckSs N fns n sc r
end
section
variable {c : Cfg} {k : Nat} {fns : List Str} {X : Cx} {sc : Scope}
theorem swaps_eq {e : Expr} {x : Str} {p : Pos} {l m : Nat} {N : List Str} {sc' : Scope} {fn : Str → Bool} (hk : X.env.scope.kind = .function) (hs : X.env.scope = sc) (hc : ckE N fns m sc' fn e = true) : swapsWith e (some (.Name x p)) l X.env = pure (swB sc.names x p e) := by
  cases m with
  | zero => cases hc
  | succ m =>
  cases e <;> first | rfl | (cases hc; done) | skip
  rename_i elt gs scope lp
  unfold swapsWith
  have hb : X.env.blockKind = .function := by unfold Env.blockKind; rw [hk]; rfl
  show (pure (X.env.blockKind == .function && X.env.kindOf x == some .local && p.line == lp.line && !(scope.names.any fun (n, k) => n == x && (k == .local || k == .cell))) : Sem Bool) = _
  rw [hb]
  unfold Env.kindOf
  rw [hs]
  rfl
theorem asgs2 {N : List Str} {x y : Str} {px py : Pos} {ds : List D} {σ σ' : List Sl} (h : asgs N [.Name x px, .Name y py] ds σ = some σ') : ∃ i j d1 d2, ds = [d1, d2] ∧ N.idxOf? x = some i ∧ N.idxOf? y = some j ∧ σ' = (σ.set i (.sh d1)).set j (.sh d2) := by
  have one : ∀ {σ σ' : List Sl} {z : Str} {d : D}, asgN N σ z d = some σ' → ∃ i, N.idxOf? z = some i ∧ σ' = σ.set i (.sh d) := fun {σ σ' z d} h => by
    obtain ⟨i, h1, h2⟩ := bind_some h
    cases h2
    exact ⟨i, h1, rfl⟩
  match ds, h with
  | [], z => cases z
  | [d1], z =>
    obtain ⟨w', _, z⟩ := bind_some (show (asgN N σ x d1).bind (fun σ' => asgs N [.Name y py] [] σ') = _ from z)
    cases z
  | d1 :: d2 :: r, z =>
    obtain ⟨w', z1, z⟩ := bind_some (show (asgN N σ x d1).bind (fun σ' => asgs N [.Name y py] (d2 :: r) σ') = _ from z)
    obtain ⟨w2, z2, z⟩ := bind_some (show (asgN N w' y d2).bind (fun σ' => asgs N [] r σ') = _ from z)
    obtain ⟨i, hi, rfl⟩ := one z1
    obtain ⟨j, hj, rfl⟩ := one z2
    cases r with
    | nil => cases z; exact ⟨i, j, d1, d2, rfl, hi, hj, rfl⟩
    | cons _ _ => cases z
theorem swap2 {x y : Str} {px py p p2 : Pos} {kk k2 : Nat} {a b : Expr} (hk : X.env.scope.kind = .function) (l1 : X.env.scope.names.lookup x = some .local) (l2 : X.env.scope.names.lookup y = some .local) (l3 : (px.line == py.line) = true) (hxy : x ≠ y)
    (s1 : isStar a = false) (s2 : isStar b = false) (f1 : [a, b].all (foldedForSure 8) = false) (f2 : [a, b].all (constantsAlone 8) = false) : swappedStores [.Tuple [.Name x px, .Name y py] kk p] (.Tuple [a, b] k2 p2) X.env = pure (some [x, y]) := by
  have hb : X.env.blockKind = .function := by unfold Env.blockKind; rw [hk]; rfl
  have c1 : X.env.kindOf x = some .local := l1
  have c2 : X.env.kindOf y = some .local := l2
  have hline : (py.line == px.line) = true := by
    have : px.line = py.line := by simpa using l3
    simp [this]
  have he : ([x, y].eraseDups.length != [x, y].length) = false := by
    have : ¬ y = x := fun z => hxy z.symm
    simp [List.eraseDups_cons, this]
  have hst : ([a, b].any fun | .Starred .. => true | _ => false) = false := by
    cases a <;> cases b <;> first | rfl | (cases s1; done) | (cases s2; done)
  unfold swappedStores
  have e0 : ((Option.map (fun x : Expr => x.pos.line) [Expr.Name x px, Expr.Name y py].head?).getD 0) = px.line := rfl
  simp only [hb, f1, f2, List.filterMap_cons, List.filterMap_nil, c1, c2, e0, hline, beq_self_eq_true, Bool.and_self, if_true, he]
  refine (if_neg fun z => Bool.noConfusion (show false = true from z)).trans ((if_neg fun z => Bool.noConfusion (show false = true from hst.symm.trans z)).trans ?_)
  rfl
theorem filt_lt {α β : Type} {f : α → Option β} : ∀ {l : List α}, (∃ x ∈ l, f x = none) → (l.filterMap f).length < l.length
  | [], ⟨x, h, _⟩ => by cases h
  | y :: r, ⟨x, h, e⟩ => by
    have hle : (r.filterMap f).length ≤ r.length := List.length_filterMap_le f r
    rw [List.filterMap_cons]
    cases hy : f y with
    | none => exact Nat.lt_succ_of_le hle
    | some z =>
      rcases List.mem_cons.mp h with rfl | h
      · rw [e] at hy; cases hy
      · exact Nat.succ_lt_succ (filt_lt ⟨x, h, e⟩)
theorem swap0 {es : List Expr} {e : Expr} {p : Pos} {kk : Nat} (he : isTup e = true) (h : nswB X.env.scope.names es = true) : swappedStores [.Tuple es kk p] e X.env = pure none := by
  cases e with
  | Tuple vs k2 p2 =>
    unfold swappedStores
    obtain ⟨t, ht, h⟩ := List.any_eq_true.mp h
    have key : ∀ line : Nat, ((es.filterMap fun x => match x with
      | .Name id pos => if (X.env.kindOf id == some .local && pos.line == line) = true then some id else none
      | _ => none).length != es.length) = true := fun line => by
      have := filt_lt (l := es) (f := fun x => match x with
        | .Name id pos => if (X.env.kindOf id == some .local && pos.line == line) = true then some id else none
        | _ => none) ⟨t, ht, by
          cases t with
          | Name x q =>
            have h : (!(decide (X.env.scope.names.lookup x = some .local))) = true := h
            have h2 : X.env.kindOf x ≠ some .local := (by simpa using h : ¬ X.env.scope.names.lookup x = some .local)
            have h3 : (X.env.kindOf x == some .local) = false := by simpa using h2
            simp only [h3, Bool.false_and]
            rfl
          | _ => rfl⟩
      simpa using Nat.ne_of_lt this
    show (if _ then _ else if _ then _ else if _ then _ else _) = _
    split
    · rfl
    · split
      · rfl
      · refine if_pos ?_
        rw [Bool.or_eq_true]
        exact .inl (key _)
  | _ => cases he
/-- name = [..] where the old value goes first -/
theorem set_lc {n m i : Nat} {x : Str} {p pos lp : Pos} {elt : Expr} {gs : List Comprehension} {scope : Scope} {fn : Str → Bool} (g : Good c k fns X sc fn) (h : ckE c.N fns m sc fn (.ListComp elt gs scope lp) = true) (hi : X.N[i]? = some x) (hl : X.env.scope.names.lookup x = some .local)
    (hsw : swapsWith (.ListComp elt gs scope lp) (some (.Name x p)) pos.line X.env = pure true) : PS X (.Assign [.Name x p] (.ListComp elt gs scope lp) pos) (tAsg (tF X.K X.w fun σ => ev c n false σ (.ListComp elt gs scope lp)) (gName i)) := by
  cases n with
  | zero => exact ⟨fun _ _ _ _ _ _ ⟨O, Ow, es, d, hO, F, e, q⟩ => by cases e⟩
  | succ n =>
  cases m with
  | zero => cases h
  | succ m =>
  have S : Snd c k fns n := snd_all n
  have setno : ∀ {sc fn t e}, ckI c.N fns m sc fn t e = true → isSet e = false := fun h => by
    unfold ckI at h
    rw [Bool.and_eq_true] at h
    simpa using h.1
  rcases gs_of h with ⟨t, it, ifs, rfl⟩ | ⟨t, it, t', it', ifs', rfl⟩
  · have h : ((ckI c.N fns m sc fn t it && blkB c.N sc.names scope) && ((ckTg (relS scope sc).names (fun x => scope.names.lookup x == some .cell) t && subB (tgIx c.N t) ((ownOf c.N scope.names).map (·.2))) &&
          ((match (generalizing := false) ifs with
            | [] => true
            | [c'] => ckE c.N fns m (relS scope sc) (fun x => scope.names.lookup x == some .cell) c'
            | _ => false) && ckE c.N fns m (relS scope sc) (fun x => scope.names.lookup x == some .cell) elt))) = true := h
    rw [Bool.and_eq_true, Bool.and_eq_true, Bool.and_eq_true, Bool.and_eq_true, Bool.and_eq_true] at h
    obtain ⟨⟨hit, hb⟩, ⟨ht, hsub⟩, hifs, helt⟩ := h
    exact (ps_setLc (own := ownOf c.N scope.names) (wi := tI X.K X.w true fun σ => iter c.N (ev c n true σ) it) (g := tG X.K X.w ((ownOf c.N scope.names).map fun q : Str × Nat => q.2) fun es d => asg c.N es t d) (tt := tT X.K X.w fun σ' => tests (tst c n σ') ifs) (te := tE X.K X.w false fun σ' => ev c n false σ' elt)
      g.calm g.nd hi hl hsw (si_iter S g hit) (blk_of g hb) (fun s H C cl fp => (tg_of (good_blk g scope s H C cl fp) ht).mono (sub_of hsub)) (fun s H C cl fp => pts_of S (good_blk g scope s H C cl fp) hifs) (fun s H C cl fp => (S.e m _ _ _ (good_blk g scope s H C cl fp) elt helt).1 false) (fold_set (setno hit) _)).imp
      fun D σ H ⟨O, Ow, es, d, hO, F, e, q⟩ => comp1_read (X := X) (own := ownOf c.N scope.names) (fi := fun σ => iter c.N (ev c n true σ) it) (g := fun es d => asg c.N es t d) (t := fun σ' => tests (tst c n σ') ifs) (f := fun σ' => ev c n false σ' elt) (Q := fun x H1 => gName i x σ H1 D.nx) ⟨O, Ow, es, d, hO, F, (ev_lc1 c n false es elt t it ifs scope lp).symm.trans e, q⟩
  · have h : ((ckI c.N fns m sc fn t it && blkB c.N sc.names scope) && ((ckTg (relS scope sc).names (fun x => scope.names.lookup x == some .cell) t && subB (tgIx c.N t) ((ownOf c.N scope.names).map (·.2))) &&
          ((ckI c.N fns m (relS scope sc) (fun x => scope.names.lookup x == some .cell) t' it' && (ckTg (relS scope sc).names (fun x => scope.names.lookup x == some .cell) t' && subB (tgIx c.N t') ((ownOf c.N scope.names).map (·.2)))) && ((match (generalizing := false) ifs' with
            | [] => true
            | [c'] => ckE c.N fns m (relS scope sc) (fun x => scope.names.lookup x == some .cell) c'
            | _ => false) && ckE c.N fns m (relS scope sc) (fun x => scope.names.lookup x == some .cell) elt)))) = true := h
    rw [Bool.and_eq_true, Bool.and_eq_true, Bool.and_eq_true, Bool.and_eq_true, Bool.and_eq_true, Bool.and_eq_true, Bool.and_eq_true, Bool.and_eq_true] at h
    obtain ⟨⟨hit, hb⟩, ⟨ht, hsub⟩, ⟨hi', ht', hsub'⟩, hifs, helt⟩ := h
    exact (ps_setLc2 (own := ownOf c.N scope.names) (vs1 := tgIx c.N t') (wi := tI X.K X.w true fun σ => iter c.N (ev c n true σ) it) (g := tG X.K X.w ((ownOf c.N scope.names).map fun q : Str × Nat => q.2) fun es d => asg c.N es t d) (wi1 := tI X.K X.w false fun σ' => iter c.N (ev c n false σ') it') (g1 := tG X.K X.w (tgIx c.N t') fun es d => asg c.N es t' d) (tt1 := tT X.K X.w fun σ' => tests (tst c n σ') ifs') (te := tE X.K X.w false fun σ' => ev c n false σ' elt)
      g.calm g.nd hi hl hsw (si_iter S g hit) (blk_of g hb) (sub_of hsub') (fun s H C cl fp => (tg_of (good_blk g scope s H C cl fp) ht).mono (sub_of hsub)) (fun _ _ _ _ _ => pts_nil) (fun s H C cl fp => si_iter S (good_blk g scope s H C cl fp) hi') (fun s H C cl fp => tg_of (good_blk g scope s H C cl fp) ht') (fun s H C cl fp => pts_of S (good_blk g scope s H C cl fp) hifs) (fun s H C cl fp => (S.e m _ _ _ (good_blk g scope s H C cl fp) elt helt).1 false) (fold_set (setno hit) _) (fold_set (setno hi'))).imp
      fun D σ H ⟨O, Ow, es, d, hO, F, e, q⟩ => comp2_read (X := X) (own := ownOf c.N scope.names) (fi := fun σ => iter c.N (ev c n true σ) it) (g := fun es d => asg c.N es t d) (fi1 := fun σ' => iter c.N (ev c n false σ') it') (vs1 := tgIx c.N t') (g1 := fun es d => asg c.N es t' d) (t1 := fun σ' => tests (tst c n σ') ifs') (f := fun σ' => ev c n false σ' elt) (Q := fun x H1 => gName i x σ H1 D.nx) ⟨O, Ow, es, d, hO, F, (ev_lc2 c n false es elt t it t' it' ifs' scope lp).symm.trans e, q⟩
theorem ss_all (g : Good c k fns X sc yes) (hk : X.env.scope.kind = .function) (hp : PassesOwn (model X.prog X.w) X.A X.env X.xe) {O0 : Addr → Prop} {H0 : Hp} : ∀ n, (∀ m st, ckS c.N fns m sc st = true → SSt X O0 H0 st fun σ => ex c n σ st) ∧ ∀ m sts, ckSs c.N fns m sc sts = true → SSs X O0 H0 sts fun σ => exs c n σ sts
  | 0 => ⟨fun m st h => ⟨fun _ _ _ _ _ _ ⟨O, es, fl, R, e0, q⟩ => by cases e0⟩, fun m st h => ⟨fun _ _ _ _ _ _ ⟨O, es, fl, R, e0, q⟩ => by cases e0⟩⟩
  | n + 1 => by
    obtain ⟨i1, i2⟩ := ss_all g hk hp (O0 := O0) (H0 := H0) n
    have S : Snd c k fns ED := snd_all ED
    have E : ∀ {e}, ckE c.N fns ED sc yes e = true → (∀ b, SE X b e fun σ => ev c ED b σ e) ∧ (ST X e fun σ => tst c ED σ e) ∧ (isFresh e = true → SF X e fun σ => ev c ED false σ e) := fun {e} h => S.e ED X sc yes g e h
    have none : ∀ {st : Stmt}, SSt X O0 H0 st fun _ => none := ⟨fun _ _ _ _ _ _ ⟨O, es, fl, R, e0, q⟩ => by cases e0⟩
    refine ⟨fun m st h => ?_, fun m sts h => ?_⟩
    · cases m with
      | zero => cases h
      | succ m =>
      unfold ckS at h
      split at h
      · exact ss_ret ((E h).1 false)
      · exact ss_retN
      · exact ss_next ps_pass
      · exact ss_break
      · exact ss_cont
      · exact ss_next ps_doc
      · rename_i x xp m' ap a p pp
        rw [Bool.and_eq_true, Bool.and_eq_true, Bool.and_eq_true, Bool.and_eq_true, Bool.and_eq_true, Bool.or_eq_true] at h
        obtain ⟨hm, ⟨hx, ho⟩, ⟨hs, ha⟩, hl⟩ := h
        obtain ⟨o1, o2⟩ := okX_of ho
        cases hi : c.N.idxOf? x with
        | none =>
          refine none.imp fun D σ H ⟨O, es, fl, R, e0, q⟩ => ?_
          unfold ex at e0
          simp only [hi, Option.bind_none] at e0
          exfalso
          revert e0
          cases decide (m' = "append") <;> cases (decide (m' = "extend") && isFresh a) <;> exact fun z => by cases z
        | some i =>
          by_cases hm0 : m' = "append"
          case neg =>
            have hm1 : m' = "extend" := hm.elim (fun z => absurd (of_decide_eq_true z) hm0) of_decide_eq_true
            cases hf : isFresh a with
            | false =>
              refine none.imp fun D σ H ⟨O, es, fl, R, e0, q⟩ => ?_
              unfold ex at e0
              simp only [decide_eq_false hm0, hf, Bool.and_false, cond_false] at e0
              cases e0
            | true =>
              refine (ss_ext (O0 := O0) (H0 := H0) (N := c.N) (xs := esc c.N ED false a) (pe_var (pos := xp) (by rw [g.nN]; exact ix_get hi) (vis_of g hx) o1 o2) hm1 (by simpa using hs) ((E ha).2.2 hf) (by subst hm1; rfl) hl).imp fun D σ H ⟨O, es, fl, R, e0, q⟩ => ?_
              refine ⟨O, es, fl, R, ?_, q⟩
              unfold ex at e0
              simp only [decide_eq_false hm0, hf, hm1, decide_true, Bool.and_true, cond_true, cond_false, hi] at e0
              exact e0
          have hm := hm0
          refine (ss_app (O0 := O0) (H0 := H0) (N := c.N) (xs := esc c.N ED false a) (pe_var (pos := xp) (by rw [g.nN]; exact ix_get hi) (vis_of g hx) o1 o2) hm (by simpa using hs) ((E ha).1 false) (by subst hm; rfl) hl).imp fun D σ H ⟨O, es, fl, R, e0, q⟩ => ?_
          refine ⟨O, es, fl, R, ?_, q⟩
          unfold ex at e0
          simp only [hm, decide_true, cond_true, hi] at e0
          exact e0
      · rename_i f p as q pos
        exact ss_drop (N := c.N) (xs := esc c.N ED false (.Call (.Name f p) as [] q)) ((E h).1 false) rfl
      · rename_i x p e pos
        rw [Bool.and_eq_true] at h
        obtain ⟨hx, he⟩ := h
        have so := store_of g hx
        cases hi : c.N.idxOf? x with
        | none =>
          refine none.imp fun D σ H ⟨O, es, fl, R, e0, q⟩ => ?_
          unfold ex at e0
          simp only [hi] at e0
          cases e0
        | some i =>
          have hN : X.N[i]? = some x := by rw [g.nN]; exact ix_get hi
          have fin : ∀ b, (isFresh e || isAdd e) = b → (SSt X O0 H0 (.Assign [.Name x p] e pos) fun σ => (ev c ED false (shareN c.N (esc c.N ED false e) σ) e).bind fun d => some (.next (setOw (shareN c.N (esc c.N ED false e) σ) i b d))) → SSt X O0 H0 (.Assign [.Name x p] e pos) fun σ => ex c (n + 1) σ (.Assign [.Name x p] e pos) := fun b hb z => by
            refine z.imp fun D σ H ⟨O, es, fl, R, e0, q⟩ => ⟨O, es, fl, R, ?_, q⟩
            unfold ex at e0
            simp only [hi, hb] at e0
            exact e0
          cases ha : isAdd e with
          | true =>
            cases e with
            | BinOp l o r p1 =>
              cases o with
              | Add =>
                have h2 : (ckE c.N fns 59 sc yes l && ckE c.N fns 59 sc yes r) = true := he
                rw [Bool.and_eq_true] at h2
                have S' : Snd c k fns 59 := snd_all 59
                refine fin true (by rw [ha, Bool.or_true]) ((ss_setcat (N := c.N) (xs := esc c.N ED false (.BinOp l .Add r p1)) (ps_set g.nd hN so.1 (pe_op op_addF ((S'.e 59 X sc yes g l h2.1).1 true) ((S'.e 59 X sc yes g r h2.2).1 true)) rfl so.2)).imp fun D σ H z => z)
              | _ => cases ha
            | _ => cases ha
          | false =>
          cases hf : isFresh e with
          | false =>
            refine fin false (by rw [hf, ha]; rfl) (ss_set (N := c.N) (xs := esc c.N ED false e) (ps_set g.nd hN so.1 ((E he).1 false) ?_ so.2))
            rw [swaps_eq hk g.sc he]
            cases e <;> first | rfl | cases hf
          | true =>
            cases hw : swB sc.names x p e with
            | false => exact fin true (by rw [hf]; rfl) (ss_setF (N := c.N) (xs := esc c.N ED false e) (ps_set g.nd hN so.1 ((E he).2.2 hf) (by rw [swaps_eq hk g.sc he, hw]) so.2))
            | true =>
              cases e with
              | ListComp elt gs scope lp =>
                have hl : X.env.scope.names.lookup x = some .local := by
                  rw [g.sc]
                  unfold swB at hw
                  rw [Bool.and_eq_true, Bool.and_eq_true] at hw
                  simpa using hw.1.1
                exact fin true (by rw [hf]; rfl) (ss_setF (N := c.N) (xs := esc c.N ED false _) (set_lc g he hN hl (by rw [swaps_eq hk g.sc he, hw])))
              | _ => cases hw
      · rename_i x xp j kj cp sp e pos
        rw [Bool.and_eq_true, Bool.and_eq_true] at h
        obtain ⟨⟨hx, ho⟩, he⟩ := h
        obtain ⟨o1, o2⟩ := okX_of ho
        cases hi : c.N.idxOf? x with
        | none =>
          refine none.imp fun D σ H ⟨O, es, fl, R, e0, q⟩ => ?_
          unfold ex at e0
          simp only [hi] at e0
          cases e0
        | some i =>
          refine (ss_setit (O0 := O0) (H0 := H0) (N := c.N) (xs := esc c.N ED false e) (pe_var (pos := xp) (by rw [g.nN]; exact ix_get hi) (vis_of g hx) o1 o2) ((E he).1 false)).imp fun D σ H ⟨O, es, fl, R, e0, q⟩ => ?_
          refine ⟨O, es, fl, R, ?_, q⟩
          unfold ex at e0
          simp only [hi, Option.bind_some] at e0
          exact e0
      · rename_i es kk p e pos
        rw [Bool.and_eq_true, Bool.and_eq_true] at h
        obtain ⟨⟨ht, he⟩, hn⟩ := h
        cases hq : isTup e with
        | false =>
          refine (ss_asgT (N := c.N) (xs := esc c.N ED false e) rfl (ps_asg ((E he).1 false) (tg_of g ht) ?_ ?_ ?_)).imp fun D σ H z => z
          · cases e <;> rfl
          · cases e <;> first | rfl | cases hq
          · rfl
        | true =>
          rw [hq, cond_true] at hn
          cases hnsw : nswB sc.names es with
          | true =>
            refine (ss_asgT (N := c.N) (xs := esc c.N ED false e) rfl (ps_asg ((E he).1 false) (tg_of g ht) ?_ ?_ ?_)).imp fun D σ H z => z
            · cases e <;> rfl
            · exact swap0 hq (by rw [g.sc]; exact hnsw)
            · rfl
          | false =>
          rw [hnsw, Bool.or_false] at hn
          unfold parB at hn
          split at hn
          · rename_i x px y py a b k2 p2
            simp only [Bool.and_eq_true, decide_eq_true_eq, Bool.not_eq_true'] at hn
            obtain ⟨⟨l1, l2, l3, l4⟩, ⟨s1, s2⟩, f1, f2⟩ := hn
            have hxy : x ≠ y := by simpa using l4
            have he' : ckE c.N fns ED sc yes (.Tuple [a, b] k2 p2) = true := he
            have hab : ∀ z ∈ [a, b], ckE c.N fns 59 sc yes (unStar z) = true := List.all_eq_true.mp (show ([a, b].all fun e => ckE c.N fns 59 sc yes (unStar e)) = true from he)
            have SA2 : SA X false [a, b] fun σ => args (fun b e => ev c 59 (b || false) σ e) [a, b] := sa_args (snd_all 59) g false [a, b] hab
            have hw : swappedStores [.Tuple [.Name x px, .Name y py] kk p] (.Tuple [a, b] k2 p2) X.env = pure (some [x, y]) := swap2 hk (by rw [g.sc]; exact l1) (by rw [g.sc]; exact l2) l3 hxy s1 s2 f1 f2
            have two : ∀ {σ σ'} {d : D}, asg c.N σ (.Tuple [.Name x px, .Name y py] kk p) d = some σ' → ∃ i j d1 d2, (d = .tuple [d1, d2] ∨ d = .list [d1, d2]) ∧ c.N.idxOf? x = some i ∧ c.N.idxOf? y = some j ∧ σ' = (σ.set i (.sh d1)).set j (.sh d2) := fun {σ σ' d} z => by
              cases d with
              | tuple ds => obtain ⟨i, j, d1, d2, rfl, r⟩ := asgs2 (show asgs c.N _ ds σ = some σ' from z); exact ⟨i, j, d1, d2, .inl rfl, r⟩
              | list ds => obtain ⟨i, j, d1, d2, rfl, r⟩ := asgs2 (show asgs c.N _ ds σ = some σ' from z); exact ⟨i, j, d1, d2, .inr rfl, r⟩
              | _ => cases z
            cases hi : c.N.idxOf? x with
            | none =>
              refine none.imp fun D σ H ⟨O, es, fl, R, e0, q⟩ => ?_
              unfold ex at e0
              obtain ⟨d, e1, e2⟩ := bind_some e0
              obtain ⟨fl', e3, e4⟩ := Option.map_eq_some_iff.mp e2
              obtain ⟨i, j, d1, d2, _, z, _⟩ := two e3
              rw [hi] at z; cases z
            | some i =>
            cases hj : c.N.idxOf? y with
            | none =>
              refine none.imp fun D σ H ⟨O, es, fl, R, e0, q⟩ => ?_
              unfold ex at e0
              obtain ⟨d, e1, e2⟩ := bind_some e0
              obtain ⟨fl', e3, e4⟩ := Option.map_eq_some_iff.mp e2
              obtain ⟨i, j, d1, d2, _, _, z, _⟩ := two e3
              rw [hj] at z; cases z
            | some j =>
              have hNi : X.N[i]? = some x := by rw [g.nN]; exact ix_get hi
              have hNj : X.N[j]? = some y := by rw [g.nN]; exact ix_get hj
              have hij : i ≠ j := fun z => by rw [z, hNj] at hNi; exact hxy (Option.some.inj hNi).symm
              refine (ss_par (O0 := O0) (H0 := H0) (N := c.N) (xs := esc c.N ED false (.Tuple [a, b] k2 p2)) hij (ps_par g.calm g.nd hNi hNj hij (by rw [g.sc]; exact l1) (by rw [g.sc]; exact l2) SA2 hw rfl)).imp fun D σ H ⟨O, es, fl, R, e0, q⟩ => ?_
              refine ⟨O, es, fl, R, ?_, q⟩
              unfold ex at e0
              obtain ⟨d, e1, e2⟩ := bind_some e0
              obtain ⟨fl', e3, e4⟩ := Option.map_eq_some_iff.mp e2
              have e1 : (args (fun z e => ev c 59 z (shareN c.N (esc c.N ED false (.Tuple [a, b] k2 p2)) es) e) [a, b]).bind (fun ds => cond (decide (ds.length ≤ few)) (some (PyData.tuple ds)) Option.none) = some d := e1
              rw [args_disp] at e1
              obtain ⟨ds, e5, e6⟩ := bind_some e1
              obtain ⟨_, e6⟩ := cond_some e6
              cases e6
              obtain ⟨i', j', d1, d2, hd, h1, h2, rfl⟩ := two e3
              rw [hi] at h1
              rw [hj] at h2
              cases h1
              cases h2
              rcases hd with hd | hd
              · cases hd
                show (args (fun z e => ev c 59 (z || false) (shareN c.N (esc c.N ED false (.Tuple [a, b] k2 p2)) es) e) [a, b]).bind _ = some fl
                rw [e5]
                exact congrArg some e4
              · cases hd
          · cases hn
      · rename_i t a b pos
        rw [Bool.and_eq_true, Bool.and_eq_true] at h
        exact ss_if (N := c.N) (xs := esc c.N ED true t) ((E h.1).2.1) (i2 m a h.2.1) (i2 m b h.2.2)
      · rename_i t it body pos
        rw [Bool.and_eq_true, Bool.and_eq_true] at h
        obtain ⟨hi, ht, hb⟩ := h
        have hs : isSet it = false := by
          unfold ckI at hi
          rw [Bool.and_eq_true] at hi
          simpa using hi.1
        exact ss_for (N := c.N) (xs := esc c.N ED false it) rfl hp g.calm (si_iter S g hi) (tg_of g ht) (i2 m body hb) (fold_set hs _)
      · rename_i t body pos
        rw [Bool.and_eq_true] at h
        exact ss_while (N := c.N) (xs := esc c.N ED true t) hp ((E h.1).2.1) (i2 m body h.2)
      · exact none
      · cases h
    · cases m with
      | zero => cases h
      | succ m =>
      unfold ckSs at h
      cases sts with
      | nil => exact sss_nil
      | cons st r =>
        rw [Bool.and_eq_true] at h
        exact sss_cons (i1 m st h.1) (i2 m r h.2)
end
end EV

namespace EV
open PySem PySem.Spec PyProof.Rows L2
def argNames (st : Stmt) : List Str := (defArgs st).args.map (·.arg)
/-- a def's text is one that the evaluator covers -/
def ckDf (fns : List Str) (st : Stmt) (d : Df) : Bool :=
  (decide ((defScope st).kind = .function) && (!(defScope st).isCoroutine && !(defScope st).isGenerator)) &&
  ((decide d.N.Nodup && decide (d.N.take (argNames st).length = argNames st)) && (((argNames st).all fun x => decide ((defScope st).names.lookup x = some .local) || decide ((defScope st).names.lookup x = some .cell)) && ((defScope st).names.all fun y => decide (y.2 ≠ .free)))) &&
  (decide (d.np = (argNames st).length) && ckSs d.N fns ED (defScope st) (defBody st))
structure MgOk (P : Program) (K : PySem.W.Frag) (w : World) (mg : Str → Option Value) (G : GI) : Prop where
  b : ∀ bi, mg (bName bi) = none
  t : ∀ t, mg (tName t) = none
  i : mg "isinstance" = none
  r : mg "range" = none
  z : mg "zip" = none
  st : mg "set" = none
  glob : ∀ x d, G.g x = some d → ∃ v u, mg x = some u ∧ RelV v u ∧ ∀ O H, Ro K w O H v d
  isi : IsiOk K mg G.i
  att : AttOk K G.a
  mkr : ∀ f, G.m f = true → ExcAt P K mg f
/-- a def stands in the module -/
structure DfIn (K : PySem.W.Frag) (mg : Str → Option Value) (fns : List Str) (st : Stmt) (d : Df) : Prop where
  ex : ∃ nm f fd, Fun K nm nm st f fd ∧ mg d.name = some (.ref f) ∧ Binds K fd (argNames st) []
  body : d.body = defBody st
  ck : ckDf fns st d = true
  pr : d.pr = none
/-- a def that is told by hand -/
def PrIn (P : Program) (w : World) (K : PySem.W.Frag) (mg : Str → Option Value) (base : Heap) (d : Df) : Prop :=
  ∃ g f fd ps, d.pr = some g ∧ mg d.name = some (.ref f) ∧ PySem.W.keepIn K (.ref f) = true ∧ Binds K fd ps [] ∧ ∀ k, 8 ≤ k → FnG P w K mg base (k + 2) f fd ps (spD K w g)
theorem findD_mem {f : Str} : ∀ {P : List Df} {d : Df}, findD f P = some d → d ∈ P ∧ d.name = f
  | [], _, h => by cases h
  | e :: r, d, h => by
    unfold findD at h
    by_cases q : e.name = f
    · rw [decide_eq_true q] at h; cases h; exact ⟨List.mem_cons_self, q⟩
    · rw [decide_eq_false q] at h
      obtain ⟨h1, h2⟩ := findD_mem h
      exact ⟨List.mem_cons_of_mem _ h1, h2⟩
theorem findD_none {f : Str} : ∀ {P : List Df}, findD f P = none → ∀ d ∈ P, d.name ≠ f
  | [], _, d, h => by cases h
  | e :: r, h, d, hd => by
    unfold findD at h
    by_cases q : e.name = f
    · rw [decide_eq_true q] at h; cases h
    · rw [decide_eq_false q] at h
      rcases List.mem_cons.mp hd with rfl | hd
      · exact q
      · exact findD_none h d hd
section
variable {P : Program} {w : World} {K : PySem.W.Frag} {mg : Str → Option Value} {base : Heap} {G : GI} {fns : List Str} {T : List Df}
def CallB (P : Program) (w : World) (K : PySem.W.Frag) (mg : Str → Option Value) (base : Heap) (k : Nat) (f : Str) (g : List D → Option D) : Prop :=
  ∃ fa fd ps, FnG P w K mg base k fa fd ps (spD K w g) ∧ mg f = some (.ref fa) ∧ PySem.W.keepIn K (.ref fa) = true ∧ Binds K fd ps []
theorem rs_start {O : Addr → Prop} {N : List Str} {H : Hp} {vs : List V} {ds : List D} {np : Nat} (hO : OkO O H) (r : RoAll K w O H vs ds) (hl : ds.length = np) (hn : np ≤ N.length) :
    Rs K w O H O (ds.map Sl.sh ++ List.replicate (N.length - np) .un) (L2.start N vs) H := by
  have hv : vs.length = ds.length := r.length
  refine ⟨hO, fun _ z => z, fun _ z => .inl z, Same.refl H, fun i s e => ?_, fun i j l l' a e => ?_, by simp [L2.start, hv, hl]⟩
  · by_cases hi : i < ds.length
    · rw [List.getElem?_append_left (by simpa using hi), List.getElem?_map] at e
      obtain ⟨d, ed, rfl⟩ := Option.map_eq_some_iff.mp e
      obtain ⟨v, ev, rv⟩ := r.get ed
      refine ⟨v, ?_, rv⟩
      unfold L2.start
      rw [List.getElem?_append_left (by simpa [hv] using hi), List.getElem?_map, ev]; rfl
    · rw [List.getElem?_append_right (by simpa using hi)] at e
      have := List.mem_of_getElem? e
      rw [List.mem_replicate] at this
      rw [this.2]
      trivial
  · exfalso
    have := List.mem_of_getElem? e
    rw [List.mem_append] at this
    rcases this with h | h
    · obtain ⟨d, _, h⟩ := List.mem_map.mp h; cases h
    · rw [List.mem_replicate] at h; cases h.2
/-- one def, from its callees -/
theorem fn_one (M : MgOk P K w mg G) {k : Nat} (hc : ∀ f ∈ fns, G.m f = true ∨ CallB P w K mg base (k + 1) f (callN T G k f)) {d : Df} {st : Stmt} (hq : findD d.name T = some d) (hpr : d.pr = none) (hbody : d.body = defBody st) (ck : ckDf fns st d = true) {f : Addr} {fd : FuncData} {nm : Str} (F : Fun K nm nm st f fd) :
    FnG P w K mg base (k + 2) f fd (argNames st) (spD K w (callN T G (k + 1) d.name)) := by
    unfold ckDf at ck
    simp only [Bool.and_eq_true, decide_eq_true_eq, List.all_eq_true, Bool.or_eq_true, Bool.not_eq_true'] at ck
    obtain ⟨⟨⟨c1, c2, c3⟩, ⟨c4, c5⟩, c6, c7⟩, c8, c9⟩ := ck
    have S : FnScope d.N (argNames st) (defScope st) := ⟨c1, c2, c3, c4, c5, c6, c7⟩
    have hle : (argNames st).length ≤ d.N.length := by have := congrArg List.length c5; rw [List.length_take] at this; omega
    have len : ∀ vs H Q E, spD K w (callN T G (k + 1) d.name) vs H Q E → vs.length = (argNames st).length := fun vs H Q E ⟨O, ds, x, hO, r, e, q⟩ => by
      unfold callN at e
      rw [hq] at e
      simp only [Option.bind_some, hpr] at e
      obtain ⟨c, _⟩ := cond_some (show cond _ _ _ = some x from e)
      have := of_decide_eq_true c
      rw [r.length, this, c8]
    refine Fun.okG F S len fun cdv A outer s H vs Q E hr hgd ⟨O, ds, x, hO, r, e, q⟩ => ?_
    unfold callN at e
    rw [hq] at e
    simp only [Option.bind_some, hpr] at e
    obtain ⟨c, e⟩ := cond_some (show cond _ _ _ = some x from e)
    have hl := of_decide_eq_true c
    obtain ⟨fl, e1, e2⟩ := bind_some e
    have g : Good ⟨d.N, G, callN T G k⟩ (k + 1) fns (cxOf CX0 P w K mg base d.N nm (defScope st) f cdv A outer s H E).nox (defScope st) yes := by
      refine ⟨rfl, S.nd, rfl, fun _ _ => rfl, rfl, hr, hgd, M.b, M.t, M.i, M.r, M.z, M.st, fun x y hy => M.glob x y hy, M.isi, M.att, M.mkr, ⟨k, rfl⟩, fun x hx => (hc x hx).imp id fun q => ⟨q⟩⟩
    have hp : PassesOwn (model (cxOf CX0 P w K mg base d.N nm (defScope st) f cdv A outer s H E).nox.prog (cxOf CX0 P w K mg base d.N nm (defScope st) f cdv A outer s H E).nox.w) (cxOf CX0 P w K mg base d.N nm (defScope st) f cdv A outer s H E).nox.A (cxOf CX0 P w K mg base d.N nm (defScope st) f cdv A outer s H E).nox.env (cxOf CX0 P w K mg base d.N nm (defScope st) f cdv A outer s H E).nox.xe := PassesOwn.never
    refine ⟨_, (ss_all g c1 hp (O0 := O) (H0 := H) ED).2 ED (defBody st) c9, O, _, fl, rs_start hO r hl (by rw [c8]; exact hle), by rw [← hbody]; exact e1, ?_⟩
    cases fl with
    | next es => cases e2; exact fun O' σ' H' s' R' => q H' .non R'.k0 .non
    | ret y => cases e2; exact fun v H' s' r' => q H' v s' r'
    | brk es => cases e2
    | cont es => cases e2
theorem calls_ok (M : MgOk P K w mg G) (hT : ∀ d ∈ T, (∃ st, DfIn K mg fns st d) ∨ PrIn P w K mg base d) (hf : ∀ f ∈ fns, G.m f = true ∨ ∃ d ∈ T, d.name = f) : ∀ k, ∀ d ∈ T, CallB P w K mg base (k + 1) d.name (callN T G k d.name)
  | 0, d, hd => by
    rcases hT d hd with ⟨st, ⟨⟨nm, f, fd, F, hm, hb⟩, _, _, _⟩⟩ | ⟨g, f, fd, ps, _, hm, hk, hb, _⟩
    · exact ⟨f, fd, argNames st, ⟨(fun vs H Q E ⟨O, ds, d, hO, r, e, q⟩ => by cases e), (fun A outer s H args us vs Q E _ _ _ _ _ ⟨O, ds, d, hO, r, e, q⟩ => by cases e)⟩, hm, F.kp, hb⟩
    · exact ⟨f, fd, ps, ⟨(fun vs H Q E ⟨O, ds, d, hO, r, e, q⟩ => by cases e), (fun A outer s H args us vs Q E _ _ _ _ _ ⟨O, ds, d, hO, r, e, q⟩ => by cases e)⟩, hm, hk, hb⟩
  | k + 1, d0, hd0 => by
    have ih := calls_ok M hT hf k
    cases hq : findD d0.name T with
    | none => exact absurd rfl (findD_none hq d0 hd0)
    | some d =>
    obtain ⟨hd, hn⟩ := findD_mem hq
    rw [← hn]
    rw [← hn] at hq
    rcases hT d hd with ⟨st, ⟨⟨nm, f, fd, F, hm, hb⟩, hbody, ck, hpr⟩⟩ | ⟨g, f, fd, ps, hpr, hm, hk, hb, hF⟩
    · have hc : ∀ f ∈ fns, G.m f = true ∨ CallB P w K mg base (k + 1) f (callN T G k f) := fun x hx => (hf x hx).imp id fun ⟨d', hd', e⟩ => by
        subst e
        exact ih d' hd'
      exact ⟨f, fd, argNames st, fn_one M hc hq hpr hbody ck F, hm, F.kp, hb⟩
    · have e0 : callN T G (k + 1) d.name = fun ds => cond (decide (8 ≤ k)) (g ds) none := by
        funext ds
        unfold callN
        rw [hq]
        simp only [Option.bind_some, hpr]
      rw [e0]
      by_cases h8 : 8 ≤ k
      · rw [decide_eq_true h8]
        exact ⟨f, fd, ps, hF k h8, hm, hk, hb⟩
      · rw [decide_eq_false h8]
        exact ⟨f, fd, ps, ⟨(fun vs H Q E ⟨O, ds, d, hO, r, e, q⟩ => by cases e), (fun A outer s H args us vs Q E _ _ _ _ _ ⟨O, ds, d, hO, r, e, q⟩ => by cases e)⟩, hm, hk, hb⟩
end
end EV

namespace EV
open PySem PySem.Spec PyProof.Rows L2
/-! ### what is looked at of the own classes of errors -/
def clsB (K : PySem.W.Frag) (C : Addr) : Bool := match K.lookup C with
  | some ⟨.type T, _, .cls cd, sl⟩ => (match cd.mro, sl.toList with
    | .ref C' :: bm, [_, _, _, _, some (.builtin n), _] => decide (T = "type") && (decide (C' = C) && (decide (n = "ValueError.__new__") && ((!cd.hasDel && cd.hasDict) && HandSPX.refsVE bm)))
    | _, _ => false)
  | _ => false
theorem clsB_ok {K : PySem.W.Frag} {C : Addr} (h : clsB K C = true) : ∃ nm q N bs bm sn sub ab col dd k0 k1 k2 k3 k5, K.lookup C = some (excClassObj nm q C N bs bm true sn sub ab col dd k0 k1 k2 k3 k5 "ValueError.__new__") ∧ HandSPX.refsVE bm = true := by
  unfold clsB at h
  split at h
  · rename_i T dd cd sl ho
    split at h
    · rename_i C' bm k0 k1 k2 k3 n k5 hm hs
      simp only [Bool.and_eq_true, decide_eq_true_eq, Bool.not_eq_true'] at h
      obtain ⟨rfl, rfl, rfl, ⟨h1, h2⟩, h3⟩ := h
      obtain ⟨nm, bs, mro, ns, qn, hd, sn, sub, ab, col, del⟩ := cd
      dsimp only at hm h1 h2
      subst hm h1 h2
      have hsl : sl = #[k0, k1, k2, k3, some (.builtin "ValueError.__new__"), k5] := by
        obtain ⟨l⟩ := sl
        exact congrArg Array.mk hs
      subst hsl
      exact ⟨nm, qn, ns, bs, bm, sn, sub, ab, col, dd, k0, k1, k2, k3, k5, ho, h3⟩
    · cases h
  · cases h
def iAd (K : PySem.W.Frag) (D : Addr) : Addr := match PySem.W.findIn K (.ref D) "__init__" with
  | some (some (.ref a)) => a
  | _ => 0
def excFB (K : PySem.W.Frag) (C D : Addr) : Bool := clsB K C && (decide (PySem.W.findIn K (.ref C) "__setattr__" = some (some (.builtin "object.__setattr__"))) && (decide (PySem.W.subIn K (.ref C) (.type "BaseException") = some true) && (decide (PySem.W.typeIn K (.ref C) = some (.type "type")) && (PySem.W.keepIn K (.ref C) &&
  (decide (PySem.W.findIn K (.ref C) "__init__" = some (some (.ref (iAd K D)))) && (decide (PySem.W.typeIn K (.ref (iAd K D)) = some (.type "function")) && (decide (PySem.W.mroIn K C (.ref D) = some true) && (decide (PySem.W.subIn K (.ref C) (.type "ValueError") = some true) &&
  (decide (PySem.W.ks_superIn K C D "__init__" = some (some (.builtin "ValueError.__init__"))) && decide (PySem.W.findIn K (.ref C) "at" = some none))))))))))
theorem excFB_ok {K : PySem.W.Frag} {C D : Addr} (h : excFB K C D = true) : ExcF K C D (iAd K D) := by
  unfold excFB at h
  simp only [Bool.and_eq_true, decide_eq_true_eq] at h
  obtain ⟨h1, h2, h3, h4, h5, h6, h7, h8, h9, h10, h11⟩ := h
  exact ⟨⟨clsB_ok h1, h2, h3, h4, h5⟩, h6, h7, h8, h9, h10, h11⟩
def excRB (K : PySem.W.Frag) (C : Addr) : Bool := decide (PySem.W.findIn K (.ref C) "__getattribute__" = some (some (.builtin "BaseException.__getattribute__"))) && (decide (PySem.W.findIn K (.ref C) "__getattr__" = some none) && (decide (PySem.W.subIn K (.ref C) (.type "BaseException") = some true) && (PySem.W.hasDictIn K C &&
  (decide (PySem.W.findIn K (.ref C) "__class__" = some (some (.builtin "object.__class__"))) && (decide (PySem.W.specialIn K (.builtin "object.__class__") "__get__" = some (some (.builtin "getset_descriptor.__get__"))) && (decide (PySem.W.takesIn K (.builtin "object.__class__") = some true) && (decide (PySem.W.mroIn K C (.type "object") = some true) &&
  ((PySem.W.clsIn K C).isSome && decide (PySem.W.findIn K (.ref C) "at" = some none)))))))))
theorem excRB_ok {K : PySem.W.Frag} {C : Addr} (h : excRB K C = true) : ExcR K C := by
  unfold excRB at h
  simp only [Bool.and_eq_true, decide_eq_true_eq] at h
  obtain ⟨h1, h2, h3, h4, h5, h6, h7, h8, h9, h10⟩ := h
  exact ⟨⟨h1, h2, h3, h4, h5, h6, h7, h8⟩, h9, h10⟩
/-- the class's __init__ -/
abbrev IniV : Type := Option (Str × Arguments × FuncBody × Scope × Addr × List Str × Addr)
def iniW (K : PySem.W.Frag) (D : Addr) : IniV := match K.lookup (iAd K D) with
  | some ⟨_, _, .func fd, _⟩ => some (fd.qualname, fd.params, fd.body, fd.scope, fd.globals, fd.closure.map (·.1), fd.builtins)
  | _ => none
def iniB (K : PySem.W.Frag) (D : Addr) (file : Str) : Bool := (match K.lookup (iAd K D) with
  | some ⟨_, _, .func fd, _⟩ => (match fd.defaults, fd.code, fd.closure with
    | .none, .ref cda, [(_, cc)] => PySem.W.codeIn K (.ref cda) fd.qualname && ((match K.lookup cda with
      | some ⟨_, _, .fields vs, _⟩ => (match (vs[2]? : Option Value) with
        | some (Value.str f _) => file == f
        | _ => false)
      | _ => false) && (match K.lookup cc with
      | some ⟨_, _, .cell (some (.ref D')), _⟩ => decide (D' = D)
      | _ => false))
    | _, _, _ => false)
  | _ => false) && ((PySem.W.clsIn K D).isSome && decide (PySem.W.nsIn K cStatics "thirdparty.any" = some none))
/-- the text of the class's __init__ -/
structure IniT (P : Program) (params : Arguments) (body : List Stmt) (scope : Scope) : Prop where
  kind : scope.kind = .function
  co : scope.isCoroutine = false
  gen : scope.isGenerator = false
  nocell : ∀ x ∈ scope.names, x.2 ≠ .cell
  sup : scope.names.lookup ("super" : Str) = some .globalImplicit
  cls_ : scope.names.lookup ("__class__" : Str) = some .free
  slf : scope.names.lookup ("self" : Str) = some .local
  at_ : scope.names.lookup ("at" : Str) = some .local
  head : ∃ ar, (params.posonlyargs ++ params.args).head? = some ar ∧ ar.arg = ("self" : Str)
  top : (P.main.scope.names.lookup ("super" : Str)).isSome = false
theorem iniF_of {P : Program} {K : PySem.W.Frag} {D : Addr} {qual : Str} {params : Arguments} {body : List Stmt} {scope : Scope} (T : IniT P params body scope) (hw : iniW K D = some (qual, params, FuncBody.stmts body, scope, mainGlobals, [("__class__" : Str)], builtinsNs)) (hb : iniB K D P.main.file = true) :
    ∃ cc cda, IniF P K D (iAd K D) cc cda qual params body scope := by
  unfold iniB at hb
  unfold iniW at hw
  split at hw
  · rename_i oc od fd osl lk
    rw [lk] at hb
    simp only [Bool.and_eq_true, decide_eq_true_eq] at hb
    obtain ⟨hb, h1, h2⟩ := hb
    obtain ⟨nm, q, pa, bo, sc, gl, cl, dV, kV, doc, pm, an, cdv, ct, bl⟩ := fd
    simp only [Option.some.injEq, Prod.mk.injEq] at hw
    obtain ⟨rfl, rfl, rfl, rfl, rfl, hcl, rfl⟩ := hw
    cases dV <;> try (cases hb; done)
    cases cdv with
    | ref cda =>
      match cl, hcl, hb, lk with
      | [(nc, cc)], hcl, hb, lk =>
        simp only [List.map_cons, List.map_nil, List.cons.injEq, and_true] at hcl
        subst hcl
        simp only [Bool.and_eq_true] at hb
        obtain ⟨b1, b2, b3⟩ := hb
        refine ⟨cc, cda, ⟨⟨nm, oc, od, kV, doc, pm, an, ct, osl, lk⟩, b1, ?_, ?_, Option.isSome_iff_exists.mp h1, h2, T.kind, T.co, T.gen, T.nocell, T.sup, T.cls_, T.slf, T.at_, T.head, T.top⟩⟩
        · split at b3
          · rename_i c1 c2 D' c3 e
            have := of_decide_eq_true b3
            subst this
            exact ⟨_, _, _, e⟩
          · cases b3
        · split at b2
          · rename_i c1 c2 vs c3 e
            split at b2
            · rename_i f tf e2
              exact ⟨_, _, vs, _, f, tf, e, e2, b2⟩
            · cases b2
          · cases b2
    | _ => cases hb
  · cases hw
end EV

namespace EV
open PySem PySem.Spec PyProof.Rows L2
/-! ### the module's constants -/
mutual
def kD (K : PySem.W.Frag) : Nat → Value → D → Bool
  | _, .none, .none => true
  | _, .bool b, .bool c => b == c
  | _, .int i _, .int j => decide (i = j)
  | _, .str x _, .str y => decide (x = y) && PyData.canLay0 (.str y)
  | n + 1, .ref a, .list ds => (match K.lookup a with
    | some ⟨.type c, none, .seq its _, _⟩ => decide (c = "list") && (decide (its.size ≤ sizeLine) && kDs K n its.toList ds)
    | _ => false)
  | n + 1, .ref a, .tuple ds => (match K.lookup a with
    | some ⟨.type c, _, .seq its _, _⟩ => decide (c = "tuple") && (decide (its.size ≤ sizeLine) && kDs K n its.toList ds)
    | _ => false)
  | _, _, _ => false
def kDs (K : PySem.W.Frag) : Nat → List Value → List D → Bool
  | _, [], [] => true
  | n, u :: us, d :: ds => kD K n u d && kDs K n us ds
  | _, _, _ => false
end
section
variable {K : PySem.W.Frag} {w : World}
mutual
theorem kD_ok : ∀ (n : Nat) (u : Value) (d : D), kD K n u d = true → ∃ v, RelV v u ∧ ∀ O H, Ro K w O H v d
  | n, u, d, h => by
    unfold kD at h
    split at h
    · exact ⟨.non, rfl, fun _ _ => .non⟩
    · rename_i b c
      have e : b = c := by simpa using h
      subst e
      exact ⟨.bl b, rfl, fun _ _ => .bl b⟩
    · rename_i i t j
      have e : i = j := of_decide_eq_true h
      subst e
      exact ⟨.int i, ⟨t, rfl⟩, fun _ _ => .int i⟩
    · rename_i x t y
      rw [Bool.and_eq_true] at h
      have e : x = y := of_decide_eq_true h.1
      subst e
      exact ⟨.str x, ⟨t, rfl⟩, fun _ _ => .str x h.2⟩
    · rename_i n a ds
      split at h
      · rename_i c its m sl q
        rw [Bool.and_eq_true, Bool.and_eq_true] at h
        obtain ⟨vs, r, hv⟩ := kDs_ok n _ _ h.2.2
        exact ⟨.ref a, rfl, fun O H => .kls ⟨_, its, m, q, congrArg Value.type (of_decide_eq_true h.1), rfl, rfl, of_decide_eq_true h.2.1, r⟩ (hv O H)⟩
      · cases h
    · rename_i n a ds
      split at h
      · rename_i c od its m sl q
        rw [Bool.and_eq_true, Bool.and_eq_true] at h
        obtain ⟨vs, r, hv⟩ := kDs_ok n _ _ h.2.2
        exact ⟨.ref a, rfl, fun O H => .tup (.inr ⟨_, its, m, q, congrArg Value.type (of_decide_eq_true h.1), rfl, of_decide_eq_true h.2.1, r⟩) (hv O H)⟩
      · cases h
    · cases h
theorem kDs_ok : ∀ (n : Nat) (us : List Value) (ds : List D), kDs K n us ds = true → ∃ vs, Vals vs us ∧ ∀ O H, RoAll K w O H vs ds
  | n, us, ds, h => by
    unfold kDs at h
    split at h
    · exact ⟨[], .nil, fun _ _ => .nil⟩
    · rename_i u us d ds
      rw [Bool.and_eq_true] at h
      obtain ⟨v, r, hv⟩ := kD_ok n u d h.1
      obtain ⟨vs, rs, hvs⟩ := kDs_ok n us ds h.2
      exact ⟨v :: vs, .cons r rs, fun O H => .cons (hv O H) (hvs O H)⟩
    · cases h
end
/-! a dict with text keys -/
theorem nsIn_out {P : Params} {a : Addr} {ks : List Str} (h : He.dicW K a = some (He.keysIn P ks)) {z : Str} (hz : z ∉ ks) : PySem.W.nsIn K a z = some none := by
  unfold He.dicW at h
  split at h
  · rename_i c es n sl q
    split at h
    · have h1 := Option.some.inj h
      have hk : ∀ (l : List DictEntry) (ks : List Str), l.map He.keyOf = He.keysIn P ks → z ∉ ks → l.find? (·.key.isStr z) = none ∧ l.any (·.refKey) = false := by
        intro l
        induction l with
        | nil => intro ks _ _; exact ⟨rfl, rfl⟩
        | cons e r ih =>
          intro ks h hz
          cases ks with
          | nil => cases h
          | cons k ks =>
            have h2 : He.keyOf e :: r.map He.keyOf = some (k, PyData.keyHash P k) :: He.keysIn P ks := h
            injection h2 with h3 h4
            obtain ⟨i1, i2⟩ := ih ks h4 fun q => hz (List.mem_cons_of_mem _ q)
            unfold He.keyOf at h3
            split at h3
            · rename_i x t q
              have h5 := (Prod.mk.inj (Option.some.inj h3)).1
              have hne : x ≠ z := fun q => hz (by rw [← q, h5]; exact List.mem_cons_self)
              have hf : e.key.isStr z = false := by
                rw [q]
                unfold Value.isStr
                simp [hne]
              refine ⟨by rw [List.find?_cons, hf]; exact i1, ?_⟩
              rw [List.any_cons, i2, Bool.or_false]
              unfold DictEntry.refKey
              rw [q]
            · cases h3
      obtain ⟨e1, e2⟩ := hk es.toList ks h1 hz
      unfold PySem.W.nsIn
      rw [q]
      show (match es.toList.find? (·.key.isStr z) with
        | some e => some (some e.val)
        | none => if es.toList.any (·.refKey) then none else some none) = _
      rw [e1, e2]
      rfl
    · cases h
  · cases h
/-- a table's values -/
def tabB (K : PySem.W.Frag) (x : Str) (kvs : List (Str × D)) : Bool := He.eqO (PySem.W.nsIn K mainGlobals x) (some (some (.ref (He.ga K x)))) && kvs.all fun q => match PySem.W.nsIn K (He.ga K x) q.1 with
  | some (some u) => kD K 8 u q.2
  | _ => false
def dictD (kvs : List (Str × D)) : D := .dict (kvs.map fun q => (.str q.1, q.2))
theorem tab_vals {a : Addr} : ∀ {kvs : List (Str × D)}, (kvs.all fun q => match PySem.W.nsIn K a q.1 with
  | some (some u) => kD K 8 u q.2
  | _ => false) = true → ∃ ps : List (Str × V), ps.map (·.1) = kvs.map (·.1) ∧ (∀ p ∈ ps, ∃ u, PySem.W.nsIn K a p.1 = some (some u) ∧ RelV p.2 u) ∧ ∀ O H, RoAll K w O H (ps.map (·.2)) (kvs.map (·.2))
  | [], _ => ⟨[], rfl, (fun _ h => by cases h), fun _ _ => .nil⟩
  | q :: r, h => by
    rw [List.all_cons, Bool.and_eq_true] at h
    obtain ⟨ps, h1, h2, h3⟩ := tab_vals h.2
    have h0 := h.1
    split at h0
    · rename_i u e
      obtain ⟨v, rv, hv⟩ := kD_ok (w := w) 8 u q.2 h0
      refine ⟨(q.1, v) :: ps, by simp [h1], fun p hp => ?_, fun O H => .cons (hv O H) (h3 O H)⟩
      rcases List.mem_cons.mp hp with rfl | hp
      · exact ⟨u, e, rv⟩
      · exact h2 p hp
    · cases h0
theorem zip_str : ∀ {ps : List (Str × V)} {kvs : List (Str × D)}, ps.map (·.1) = kvs.map (·.1) → ((ps.map fun p => PyData.str p.1).zip (kvs.map (·.2))) = kvs.map fun q => (.str q.1, q.2)
  | [], [], _ => rfl
  | p :: ps, q :: kvs, h => by
    simp only [List.map_cons, List.cons.injEq] at h
    simp only [List.map_cons, List.zip_cons_cons, h.1, zip_str h.2]
  | [], _ :: _, h => by cases h
  | _ :: _, [], h => by cases h
theorem tab_ok {x : Str} {kvs : List (Str × D)} (h : tabB K x kvs = true) (hd : He.dicW K (He.ga K x) = some (He.keysIn w.params (kvs.map (·.1)))) : PySem.W.nsIn K mainGlobals x = some (some (.ref (He.ga K x))) ∧ ∀ O H, Ro K w O H (.ref (He.ga K x)) (dictD kvs) := by
  unfold tabB at h
  rw [Bool.and_eq_true] at h
  obtain ⟨ps, h1, h2, h3⟩ := tab_vals (w := w) h.2
  obtain ⟨es, n, kd⟩ := He.dicW_ok hd
  refine ⟨He.eqO_ok h.1, fun O H => ?_⟩
  have := Ro.kdc (O := O) (H := H) kd h2 (fun z hz => nsIn_out hd (by rw [← h1]; exact hz)) (h3 O H)
  rw [zip_str h1] at this
  exact this
end
/-! ### what the walk looks at behind the top -/
structure Hd where
  fn : List He.DefD
  free : List Str
  cs : List (Str × D)
  ts : List (Str × List (Str × D))
  xs : List Str := []
  xb : Str := ""
  is : List (Str × List Str) := []
  file : Str := ""
  ini : IniV := none
  fe : List He.Fa := []
/-- the class that a name says -/
def cvOf (K : PySem.W.Frag) (t : Str) : Value := match PySem.W.nsIn K mainGlobals t with
  | some (some u) => u
  | _ => (bootBuiltins t).getD .none
def isB1 (K : PySem.W.Frag) (t : Str) : Bool := match PySem.W.nsIn K mainGlobals t with
  | some (some (.ref _)) => true
  | some none => decide (t ≠ "__name__") && (match bootBuiltins t with
    | some (.type _) => true
    | _ => false)
  | _ => false
def Hd.xsB (h : Hd) (K : PySem.W.Frag) : Bool := (h.xs.all fun x => He.eqO (PySem.W.nsIn K mainGlobals x) (some (some (.ref (He.ga K x)))) && (excFB K (He.ga K x) (He.ga K h.xb) && excRB K (He.ga K x))) && ((h.xs.isEmpty || iniB K (He.ga K h.xb) h.file) &&
  h.is.all fun t => isB1 K t.1 && h.xs.all fun x => decide (PySem.W.kitOne K (.ref (He.ga K x)) (cvOf K t.1) = some (t.2.contains x)))
abbrev HdV : Type := (Bool × He.AlT) × (Bool × IniV)
def Hd.fa (h : Hd) : List He.Fa := h.fn.map (fun d => .glo d.at_.1) ++ (h.free.map .free ++ h.fe)
def Hd.tabs (h : Hd) : List He.Tab := h.ts.map fun t => ((fun K => He.ga K t.1), t.2.map (·.1))
def Hd.extra (h : Hd) (K : PySem.W.Frag) : Bool := (h.cs.all fun q => match PySem.W.nsIn K mainGlobals q.1 with
  | some (some u) => kD K 8 u q.2
  | _ => false) && h.ts.all fun t => tabB K t.1 t.2
def isiF (xs : List Str) (is : List (Str × List Str)) (t : Str) (d : D) : Option D := match d with
  | .dict [(.tuple [.str x], _)] => (is.lookup t).bind fun l => cond (xs.contains x) (some (.bool (l.contains x))) none
  | _ => none
def attF (xs : List Str) (t : Str) (d : D) : Option D := cond (decide (t = "at")) (match d with
  | .dict [(.tuple [.str x], v)] => cond (xs.contains x) (some v) none
  | _ => none) none
def Hd.G (h : Hd) : GI := ⟨fun x => (h.cs ++ h.ts.map fun t => (t.1, dictD t.2)).lookup x, isiF h.xs h.is, attF h.xs, fun f => h.xs.contains f⟩
def Hd.obs (h : Hd) (K : PySem.W.Frag) : HdV := ((h.extra K, He.obsT h.fa h.fn h.tabs K), (h.xsB K, cond h.xs.isEmpty none (iniW K (He.ga K h.xb))))
def Hd.obsG (h : Hd) (n : Nat) (g : Addr → Option Obj) : HdV := h.obs (He.frG g (cStatics :: He.asD g n))
def Hd.val (h : Hd) (w : World) : HdV := ((true, He.valT h.fn h.tabs w), (true, h.ini))
def Hd.hook (h : Hd) (n : Nat) : PySem.W.Hook where
  α := HdV
  obs := fun s => h.obsG n s.heap.get?
  val := fun w => h.val w
  says := fun w hp => ∃ K : PySem.W.Frag, K.In hp ∧ h.obs K = h.val w
  of := fun _ _ e => ⟨_, He.frG_in, e⟩
  keeps := fun _ _ _ ⟨K, hK, c⟩ k => ⟨K, PySem.W.Frag.In.keeps hK k, c⟩
theorem Hd.obsG_eq {h : Hd} {n : Nat} {g : Addr → Option Obj} {s : Shared} (e : ∀ a, g a = s.heap.get? a) : h.obsG n g = (h.hook n).obs s := by
  have e2 : g = s.heap.get? := funext e
  rw [e2]
  rfl
section
variable {h : Hd} {K : PySem.W.Frag} {w : World} {hp : Heap} {mg : Str → Option Value}
theorem Hd.says_glob (c : h.obs K = h.val w) (X : K.In hp) (N : hp.Ns mainGlobals mg) {x : Str} {d : D} (e : h.G.g x = some d) : ∃ v u, mg x = some u ∧ RelV v u ∧ ∀ O H, Ro K w O H v d := by
  have c1 : h.extra K = true := congrArg (fun z : HdV => z.1.1) c
  have c2 : h.tabs.map (fun t => He.dicW K (t.1 K)) = h.tabs.map fun t => some (He.keysIn w.params t.2) := congrArg (fun z : HdV => z.1.2.2) c
  unfold Hd.extra at c1
  rw [Bool.and_eq_true, List.all_eq_true, List.all_eq_true] at c1
  have hm := PySem.mem_of_lookup e
  rcases List.mem_append.mp hm with hm | hm
  · have := c1.1 _ hm
    split at this
    · rename_i u q
      obtain ⟨v, rv, hv⟩ := kD_ok (w := w) 8 u d this
      exact ⟨v, u, PySem.W.mg_of X N q, rv, hv⟩
    · cases this
  · obtain ⟨t, ht, q⟩ := List.mem_map.mp hm
    cases q
    have hd : He.dicW K (He.ga K t.1) = some (He.keysIn w.params (t.2.map (·.1))) := by
      have hz : ∀ z ∈ h.tabs, He.dicW K (z.1 K) = some (He.keysIn w.params z.2) := List.map_inj_left.mp c2
      exact hz (_, _) (List.mem_map.mpr ⟨t, ht, rfl⟩)
    obtain ⟨e1, e2⟩ := tab_ok (w := w) (c1.2 t ht) hd
    exact ⟨.ref (He.ga K t.1), _, PySem.W.mg_of X N e1, rfl, e2⟩
theorem Hd.says_d (c : h.obs K = h.val w) : He.SaysD h.fa h.fn K := congrArg (fun z : HdV => z.1.2.1) c
theorem Hd.says_fact (c : h.obs K = h.val w) {f : He.Fa} (hf : f ∈ h.fa) : f.ok K = true := by
  obtain ⟨i, hi⟩ := List.mem_iff_getElem?.mp hf
  exact (Hd.says_d c).fact i hi
theorem Hd.says_free (c : h.obs K = h.val w) (X : K.In hp) (N : hp.Ns mainGlobals mg) {x : Str} (hx : x ∈ h.free) : mg x = none :=
  He.free_ok X N (Hd.says_fact c (List.mem_append_right _ (List.mem_append_left _ (List.mem_map.mpr ⟨x, hx, rfl⟩))))
theorem Hd.says_glo (c : h.obs K = h.val w) (X : K.In hp) (N : hp.Ns mainGlobals mg) {d : He.DefD} (hd : d ∈ h.fn) : mg d.at_.1 = some (.ref (He.ga K d.at_.1)) :=
  He.glo_ok X N (Hd.says_fact c (List.mem_append_left _ (List.mem_map.mpr ⟨d, hd, rfl⟩)))
/-- the builtins' names, one list -/
def names0 : List Str := (bAll.map bName) ++ ([Ty.tuple, .int, .bool, .str, .list].map tName ++ (["isinstance", "range", "zip", "set"] : List Str))
/-- the text of the errors' __init__, as it stands in the program -/
def IniOk (P : Program) (h : Hd) : Prop := h.xs = [] ∨ ∃ (qual : Str) (params : Arguments) (scope : Scope) (p0 p1 p2 p3 p4 p5 p6 p7 p8 p9 : Pos) (pl : Sem Bool), h.ini = some (qual, params, FuncBody.stmts (iBody p0 p1 p2 p3 p4 p5 p6 p7 p8 p9), scope, mainGlobals, [("__class__" : Str)], builtinsNs) ∧
    IniT P params (iBody p0 p1 p2 p3 p4 p5 p6 p7 p8 p9) scope ∧ h.file = P.main.file ∧ ("super" : Str) ∈ h.free ∧
    (∀ L f cd cc, eval (iCall p0 p1 p2 p3 p4) (PySem.W.ksEnv qual scope L f cd cc) = iEv p0 p1 p2 p3 p4 pl (PySem.W.ksEnv qual scope L f cd cc)) ∧ (∀ L f cd cc, interactive (PySem.W.ksEnv qual scope L f cd cc) = false) ∧
    (∀ L f cd cc, swapsWith (iCall p0 p1 p2 p3 p4) none p5.line (PySem.W.ksEnv qual scope L f cd cc) = pure false) ∧ (∀ L f cd cc, swapsWith (.Name "at" p8) (some (.Attribute (.Name "self" p6) "at" p7)) p9.line (PySem.W.ksEnv qual scope L f cd cc) = pure false) ∧
    (∀ (v : Value) (s : Shared) (a : Addr) (nm : Str) (kV doc pm : Value) (an : Option Addr) (cda cc : Addr) (ct : Value), BindsTo s (PySem.W.ksFn nm qual params (iBody p0 p1 p2 p3 p4 p5 p6 p7 p8 p9) scope .none kV doc pm an (.ref cda) ct cc) ⟨[.ref a, v], []⟩ [("self", .ref a), ("at", v)])
theorem Hd.says_xs (c : h.obs K = h.val w) : h.xsB K = true := congrArg (fun z : HdV => z.2.1) c
theorem Hd.says_cls (c : h.obs K = h.val w) {x : Str} (hx : x ∈ h.xs) : PySem.W.nsIn K mainGlobals x = some (some (.ref (He.ga K x))) ∧ ExcF K (He.ga K x) (He.ga K h.xb) (iAd K (He.ga K h.xb)) ∧ ExcR K (He.ga K x) := by
  have c1 := Hd.says_xs c
  unfold Hd.xsB at c1
  rw [Bool.and_eq_true, List.all_eq_true] at c1
  have := c1.1 x hx
  rw [Bool.and_eq_true, Bool.and_eq_true] at this
  exact ⟨He.eqO_ok this.1, excFB_ok this.2.1, excRB_ok this.2.2⟩
theorem Hd.says_one (c : h.obs K = h.val w) {x : Str} (hx : x ∈ h.xs) {C : Addr} (e : PySem.W.nsIn K mainGlobals x = some (some (.ref C))) : C = He.ga K x := by
  have := (Hd.says_cls c hx).1
  rw [e] at this
  cases this
  rfl
theorem Hd.isiOk (c : h.obs K = h.val w) (X : K.In hp) (N : hp.Ns mainGlobals mg) : IsiOk K mg h.G.i := by
  intro t
  cases hl : h.is.lookup t with
  | none =>
    left
    intro d
    show isiF h.xs h.is t d = none
    unfold isiF
    split
    · rw [hl]; rfl
    · rfl
  | some l =>
    right
    have hm := PySem.mem_of_lookup hl
    have c1 := Hd.says_xs c
    unfold Hd.xsB at c1
    rw [Bool.and_eq_true, Bool.and_eq_true] at c1
    have c2 := List.all_eq_true.mp c1.2.2 _ hm
    rw [Bool.and_eq_true, List.all_eq_true] at c2
    obtain ⟨b1, b2⟩ := c2
    have hd : ∀ d r, isiF h.xs h.is t d = some r → ∃ x v b, d = excD x v ∧ r = .bool b ∧ ∀ C, PySem.W.nsIn K mainGlobals x = some (some (.ref C)) → ExcR K C ∧ PySem.W.kitOne K (.ref C) (cvOf K t) = some b := fun d r e => by
      unfold isiF at e
      split at e
      · rename_i x v
        rw [hl] at e
        obtain ⟨hx, e⟩ := cond_some (show cond (h.xs.contains x) (some (PyData.bool (l.contains x))) none = some r from e)
        have hx : x ∈ h.xs := by simpa using hx
        cases e
        refine ⟨x, v, _, rfl, rfl, fun C hC => ?_⟩
        have := Hd.says_one c hx hC
        subst this
        exact ⟨(Hd.says_cls c hx).2.2, of_decide_eq_true (b2 x hx)⟩
      · cases e
    unfold isB1 at b1
    split at b1
    · rename_i a e
      have hcv : cvOf K t = .ref a := by unfold cvOf; rw [e]
      rw [hcv] at hd
      exact ⟨.ref a, .ref a, rfl, fun u hu => hu, .inl (PySem.W.mg_of X N e), hd⟩
    · rename_i e
      rw [Bool.and_eq_true, decide_eq_true_eq] at b1
      split at b1
      · rename_i T hT
        have hcv : cvOf K t = .type T := by unfold cvOf; rw [e, hT]; rfl
        rw [hcv] at hd
        exact ⟨.type T, .ty T, rfl, fun u hu => hu, .inr ⟨PySem.W.mg_none_of X N e, hT, b1.1⟩, hd⟩
      · cases b1.2
    · cases b1
theorem Hd.attOk (c : h.obs K = h.val w) : AttOk K h.G.a := by
  intro t d r e
  obtain ⟨ht, e⟩ := cond_some (show cond _ _ none = some r from e)
  refine ⟨of_decide_eq_true ht, ?_⟩
  split at e
  · rename_i d1 x v hh
    obtain ⟨hx, e⟩ := cond_some e
    have hx : x ∈ h.xs := by simpa using hx
    cases e
    refine ⟨x, rfl, fun C hC => ?_⟩
    have := Hd.says_one c hx hC
    subst this
    exact (Hd.says_cls c hx).2.2
  · cases e
theorem Hd.mkrOk {P : Program} (c : h.obs K = h.val w) (X : K.In hp) (N : hp.Ns mainGlobals mg) (I : IniOk P h) : ∀ f, h.G.m f = true → ExcAt P K mg f := by
  intro f hf
  have hx : f ∈ h.xs := by simpa using (show h.xs.contains f = true from hf)
  rcases I with I | ⟨qual, params, scope, p0, p1, p2, p3, p4, p5, p6, p7, p8, p9, pl, hini, hT, hfile, hsup, i1, i2, i3, i4, i5⟩
  · rw [I] at hx; cases hx
  · obtain ⟨e1, e2, e3⟩ := Hd.says_cls c hx
    have hne : h.xs.isEmpty = false := by cases e : h.xs with
      | nil => rw [e] at hx; cases hx
      | cons _ _ => rfl
    have hw : cond h.xs.isEmpty none (iniW K (He.ga K h.xb)) = h.ini := congrArg (fun z : HdV => z.2.2) c
    rw [hne, hini] at hw
    have c1 := Hd.says_xs c
    unfold Hd.xsB at c1
    rw [Bool.and_eq_true, Bool.and_eq_true, hne] at c1
    have hb : iniB K (He.ga K h.xb) P.main.file = true := by rw [← hfile]; exact c1.2.1
    obtain ⟨cc, cda, F⟩ := iniF_of hT hw hb
    exact ⟨_, _, _, cc, cda, qual, params, scope, p0, p1, p2, p3, p4, p5, p6, p7, p8, p9, pl, e1, PySem.W.mg_of X N e1, Hd.says_free c X N hsup, e2, F, i1, i2, i3, i4, fun v s a nm kV doc pm an ct => i5 v s a nm kV doc pm an cda cc ct⟩
theorem Hd.mgOk {P : Program} (c : h.obs K = h.val w) (X : K.In hp) (N : hp.Ns mainGlobals mg) (I : IniOk P h) (hf : ∀ x ∈ names0, x ∈ h.free) : MgOk P K w mg h.G := by
  refine ⟨fun bi => ?_, fun t => ?_, ?_, ?_, ?_, ?_, fun x d e => Hd.says_glob c X N e, Hd.isiOk c X N, Hd.attOk c, Hd.mkrOk c X N I⟩
  · exact Hd.says_free c X N (hf _ (List.mem_append_left _ (List.mem_map.mpr ⟨bi, by cases bi <;> simp [bAll], rfl⟩)))
  · exact Hd.says_free c X N (hf _ (List.mem_append_right _ (List.mem_append_left _ (List.mem_map.mpr ⟨t, by cases t <;> simp, rfl⟩))))
  · exact Hd.says_free c X N (hf _ (List.mem_append_right _ (List.mem_append_right _ (by simp))))
  · exact Hd.says_free c X N (hf _ (List.mem_append_right _ (List.mem_append_right _ (by simp))))
  · exact Hd.says_free c X N (hf _ (List.mem_append_right _ (List.mem_append_right _ (by simp))))
  · exact Hd.says_free c X N (hf _ (List.mem_append_right _ (List.mem_append_right _ (by simp))))
/-- a def of the top by its statement -/
def ddOf (x : Str) (st : Stmt) : He.DefD := ⟨(x, none), x, x, defArgs st, defBody st, defScope st, [], []⟩
/-- a def under another name -/
def ddOfN (x nm : Str) (st : Stmt) : He.DefD := ⟨(x, none), nm, nm, defArgs st, defBody st, defScope st, [], []⟩
def BindOk (st : Stmt) (x : Str) : Prop := ∀ (kV doc pm : Value) (an : Option Addr) (cdv ct : Value) (us : List Value), us.length = (argNames st).length → bindArgs (PySem.W.fnOf x x (defArgs st) (defBody st) (defScope st) .none kV doc pm an cdv ct) ⟨us, []⟩ = pure ((argNames st).zip us)
theorem Hd.dfIn (c : h.obs K = h.val w) (X : K.In hp) (N : hp.Ns mainGlobals mg) {fns : List Str} {st : Stmt} {d : Df} {nm : Str} (hd : ddOfN d.name nm st ∈ h.fn) (hb : BindOk st nm) (body : d.body = defBody st) (ck : ckDf fns st d = true) (hpr : d.pr = none) : DfIn K mg fns st d := by
  obtain ⟨i, hi⟩ := List.mem_iff_getElem?.mp hd
  obtain ⟨fd, F⟩ := (Hd.says_d c).def_ i hi
  refine ⟨⟨nm, He.ga K d.name, fd, ?_, Hd.says_glo c X N hd, FunD.bindsN F hb⟩, body, ck, hpr⟩
  obtain ⟨oc, od, dV, kV, doc, pm, an, cdv, ct, osl, e1, e2, e3, e4, e5⟩ := F.ex
  rcases e4 with ⟨_, rfl⟩ | ⟨z, _⟩
  · exact ⟨⟨oc, od, kV, doc, pm, an, cdv, ct, osl, e1, e2, e3⟩, F.kp⟩
  · exact absurd rfl z
theorem Hd.funIn (c : h.obs K = h.val w) (X : K.In hp) (N : hp.Ns mainGlobals mg) {x : Str} {st : Stmt} (hd : ddOf x st ∈ h.fn) (hb : BindOk st x) : ∃ f fd, Fun K x x st f fd ∧ mg x = some (.ref f) ∧ Binds K fd (argNames st) [] := by
  obtain ⟨i, hi⟩ := List.mem_iff_getElem?.mp hd
  obtain ⟨fd, F⟩ := (Hd.says_d c).def_ i hi
  refine ⟨He.ga K x, fd, ?_, Hd.says_glo c X N hd, FunD.bindsN F hb⟩
  obtain ⟨oc, od, dV, kV, doc, pm, an, cdv, ct, osl, e1, e2, e3, e4, e5⟩ := F.ex
  rcases e4 with ⟨_, rfl⟩ | ⟨z, _⟩
  · exact ⟨⟨oc, od, kV, doc, pm, an, cdv, ct, osl, e1, e2, e3⟩, F.kp⟩
  · exact absurd rfl z
theorem Hd.says_fe (c : h.obs K = h.val w) {f : He.Fa} (hf : f ∈ h.fe) : f.ok K = true := Hd.says_fact c (List.mem_append_right _ (List.mem_append_right _ hf))
end
end EV

namespace EV
open PySem PySem.Spec PyProof.Rows L2
section
variable {P : Program} {w : World} {K : PySem.W.Frag} {mg mb : Str → Option Value} {k : Nat} {fa a : Addr} {fd : FuncData} {x : Str} {sp : Sp} {s₁ : Shared} {vs : List Value} {ns : List Int}
/-- the script's list, hidden from the module's part of the heap (H: what is tracked of it) -/
theorem law_at (KX : K.In s₁.heap) (hns : s₁.heap.Ns mainGlobals mg) (hb : s₁.heap.Ns builtinsNs mb) (hbb : ∀ x : Str, x ≠ "__name__" → mb x = bootBuiltins x) (hlim : s₁.heap.NoLimit) (hg : s₁.gens = #[])
    (ha : s₁.heap.get? a = some { cls := .type "list", data := .seq vs.toArray }) (hr : Room k callerA)
    (F : ∀ base : Heap, K.In base → base.Ns mainGlobals mg → FnG P w K mg base k fa fd [x] sp) (hbind : ∀ (s : Shared) (u : Value), BindsTo s fd ⟨[u], []⟩ [(x, u)])
    {H : Hp} (hO : Only H) (hok : HOk P w H s₁.heap) (hA : ∀ b, H b ≠ none → b = a) (hK : H a ≠ none → K.lookup a = none) (hsp : sp [.ref a] H (fun v _ => v = .bl true) E0) :
    codeAny (model P w) callerA (.call (.ref fa) ⟨[.ref a], []⟩) (fun r s' => r = .ok (.ret (.bool true)) ∧ OldK s₁.heap s'.heap ∧ s'.os = s₁.os ∧ AllBare s'.gens) s₁ := by
  have free : ∀ {b : Addr} {o : Obj}, s₁.heap.get? b = some o → (b = a → H a = none) → (hidT s₁.heap H).get? b = some o := fun {b o} e n => by
    refine hidT_get e ?_
    cases q : H b with
    | none => rfl
    | some u =>
      have e' : b = a := hA b (by rw [q]; exact nofun)
      rw [e', n e'] at q
      cases q
  have dict : ∀ {b : Addr} {m : Str → Option Value}, s₁.heap.Ns b m → (hidT s₁.heap H).Ns b m := fun {b m} ⟨o, es, ep, e, d, r⟩ => by
    refine ⟨o, es, ep, free e fun z => ?_, d, r⟩
    subst z
    rw [ha] at e
    cases e
    exact nomatch d
  have kin : K.In (hidT s₁.heap H) := fun b o e => free (KX b o e) fun z => by
    cases q : H a with
    | none => rfl
    | some u =>
      have := hK (by rw [q]; exact nofun)
      rw [← z, e] at this
      cases this
  have md : Mod K mg (hidT s₁.heap H) := ⟨kin, dict hns, ⟨mb, dict hb, hbb⟩, let ⟨mc, h1, h2⟩ := hlim; ⟨mc, dict h1, h2⟩⟩
  have e0 : Env0 P w K mg (hidT s₁.heap H) callerA [] s₁ H := ⟨rfl, md, fun b o e => of_hidT e, Nat.le_of_eq (hidT_size _ _), trivial, nofun, hok, .of_eq hg⟩
  refine codeAny_mono ((F _ kin (dict hns)).run callerA [] s₁ H ⟨[.ref a], []⟩ [.ref a] [.ref a] _ _ hr rfl e0 (hbind s₁ (.ref a)) (.cons rfl .nil) hsp) fun r s' z => ?_
  match r, z with
  | .error _, z => exact False.elim z
  | .ok .next, z => exact False.elim z
  | .ok .brk, z => exact False.elim z
  | .ok .cont, z => exact False.elim z
  | .ok (.ret u), ⟨v, H', os, bare, un, hok', r', q⟩ =>
    have q' : v = .bl true := q
    subst q'
    obtain rfl : u = Value.bool true := r'
    refine ⟨rfl, OldK.of_keep fun b o e => ?_, os, bare⟩
    rcases hO b with n | ⟨ob, ys, n⟩
    · exact un.keep b o e n nofun nofun
    · obtain ⟨e1, _⟩ := hok b _ n
      obtain ⟨e2, _⟩ := hok' b _ (un.frzs b ob _ n)
      rw [e] at e1
      cases e1
      exact e2
theorem law_callG (KX : K.In s₁.heap) (hns : s₁.heap.Ns mainGlobals mg) (hb : s₁.heap.Ns builtinsNs mb) (hbb : ∀ x : Str, x ≠ "__name__" → mb x = bootBuiltins x) (hlim : s₁.heap.NoLimit) (hg : s₁.gens = #[])
    (ha : s₁.heap.get? a = some { cls := .type "list", data := .seq vs.toArray }) (hi : IntsAre vs ns) (hl : ns.length ≤ sizeLine) (hr : Room k callerA)
    (F : ∀ base : Heap, K.In base → base.Ns mainGlobals mg → FnG P w K mg base k fa fd [x] sp) (hbind : ∀ (s : Shared) (u : Value), BindsTo s fd ⟨[u], []⟩ [(x, u)])
    (hsp : ∀ H : Hp, Only H → SqL K H a (ns.map V.int) → sp [.ref a] H (fun v _ => v = .bl true) E0) :
    codeAny (model P w) callerA (.call (.ref fa) ⟨[.ref a], []⟩) (fun r s' => r = .ok (.ret (.bool true)) ∧ OldK s₁.heap s'.heap ∧ s'.os = s₁.os ∧ AllBare s'.gens) s₁ := by
  have rv := vals_ints hi
  have hlen : vs.length = ns.length := hi.length
  cases hk : K.lookup a with
  | some o =>
    have e := KX a o hk
    rw [ha] at e
    cases e
    have hO : Only fun _ => none := fun _ => .inl rfl
    exact law_at KX hns hb hbb hlim hg ha hr F hbind hO (fun _ _ z => nomatch z) (fun _ z => absurd rfl z) (fun z => absurd rfl z) (hsp _ hO (.inr ⟨_, vs.toArray, _, hk, rfl, rfl, rfl, by rw [List.size_toArray, hlen]; exact hl, by simpa using rv⟩))
  | none =>
    let H : Hp := upd (fun _ => none) a (.frz { cls := .type "list", data := .seq vs.toArray } (.lst (ns.map V.int)))
    have hH : H a = some (.frz { cls := .type "list", data := .seq vs.toArray } (.lst (ns.map V.int))) := upd_same
    have hn : ∀ b, b ≠ a → H b = none := fun b n => upd_ne n
    have hO : Only H := fun b => by
      by_cases q : b = a
      · subst q; exact .inr ⟨_, _, hH⟩
      · exact .inl (hn b q)
    refine law_at KX hns hb hbb hlim hg ha hr F hbind hO (fun b u z => ?_) (fun b z => Classical.byContradiction fun n => z (hn b n)) (fun _ => hk) (hsp _ hO (.inl (.inr ⟨_, hH⟩)))
    by_cases q : b = a
    · subst q
      rw [hH] at z
      cases z
      exact ⟨ha, by rw [List.length_map]; exact hl, vs, _, rv, ha⟩
    · rw [hn b q] at z
      cases z
end
theorem walkG {l : PySem.W.OpenLaw} {n k : Nat} {q : Program} {loose : List Str} {XP : (Str → Option Value) → Heap → Prop} {YP : World → Heap → Prop} {d : DefRec} {x : Str}
    (hn : l.most = some n) (hn2 : n ≤ sizeLine) (hdf : d.params.defaults = []) (hr : Room k callerA)
    (F : ∀ (w : World) (mg : Str → Option Value) (fa : Addr) (h : Heap), YP w h → h.Ns mainGlobals mg → mg d.name = some (.ref fa) →
      ∃ (K : PySem.W.Frag) (fd : FuncData) (g : List D → Option D), K.In h ∧ (∀ (s : Shared) (u : Value), BindsTo s fd ⟨[u], []⟩ [(x, u)]) ∧
        (∀ ns : List Int, ns.length ≤ n → (∀ k ∈ ns, Builtin.Int.intBits k ≤ 1048576) → g [.list (ns.map .int)] = some (.bool true)) ∧
        ∀ base : Heap, K.In base → base.Ns mainGlobals mg → FnG l.prog w K mg base k fa fd [x] (spD K w g)) :
    PySem.W.WalkO q loose XP YP l.row.toRowW d [] (fun f vs => PySem.call f vs) := by
  refine Att.attach_callB hn hdf fun w s₀ s₁ mg mb fa o pm cd doc a vs ns G Y ho hd hcd hmg hobj hints hlen hbits hg => ?_
  obtain ⟨K, fd, g, KX, hb, hsp, hF⟩ := F w mg fa _ Y G.T.g hmg
  refine law_callG KX G.T.g G.T.b G.T.builtins G.T.nolimit hg hobj hints (Nat.le_trans hlen hn2) hr hF hb fun H hO hS => ?_
  have emp : OkO (fun _ => False) H := fun _ z => z.elim
  have allI : ∀ (ms : List Int), RoAll K w (fun _ => False) H (ms.map V.int) (ms.map .int) := fun ms => by
    induction ms with
    | nil => exact .nil
    | cons m r ih => exact .cons (.int m) ih
  refine ⟨fun _ => False, _, .bool true, emp, .cons ?_ .nil, hsp ns hlen hbits, fun H' v s r => by cases r; rfl⟩
  rcases hS with hS | hS
  · exact .lst hS (fun z => z) (allI ns)
  · exact .kls hS (allI ns)
end EV

namespace EV
open PySem L2
/-! statements with what follows them: both ways of a test go on by themselves -/
section
variable {R : Type}
/-- a fresh list's items -/
def freshK (c : Cfg) (σ : List Sl) (e : Expr) (κ : List D → Option R) : Option R :=
  match e with
  | .List es _ => (args (fun b e => ev c 59 b σ e) es).bind fun ds => cond (decide (ds.length ≤ few)) (κ ds) none
  | .ListComp elt [⟨t, it, ifs, 0⟩] sc _ => (iter c.N (ev c 59 true σ) it).bind fun xs =>
      (compM (fun x => (asg c.N (wipeD σ ((ownOf c.N sc.names).map (·.2))) t x).bind fun σ' => (tests (tst c 59 σ') ifs).bind fun b => cond b ((ev c 59 false σ' elt).bind fun y => some (some y)) (some none)) xs).bind fun ys =>
        cond (decide (ys.length ≤ few)) (κ ys) none
  | .ListComp elt [⟨t, it, [], 0⟩, ⟨t', it', ifs', 0⟩] sc _ => (iter c.N (ev c 59 true σ) it).bind fun xs =>
      (compJ (fun x => (asg c.N (wipeD σ ((ownOf c.N sc.names).map (·.2))) t x).bind fun σ' => (iter c.N (ev c 59 false σ') it').bind fun zs =>
        compM (fun x => (asg c.N (wipeD σ' (tgIx c.N t')) t' x).bind fun σ'' => (tests (tst c 59 σ'') ifs').bind fun b => cond b ((ev c 59 false σ'' elt).bind fun y => some (some y)) (some none)) zs) xs).bind fun ys =>
        cond (decide (ys.length ≤ few)) (κ ys) none
  | _ => none
theorem cond_bind {b : Bool} {x : Option D} {κ : D → Option R} : (cond b x none).bind κ = cond b (x.bind κ) none := by cases b <;> rfl
theorem freshK_eq (c : Cfg) (σ : List Sl) (e : Expr) (h : isFresh e = true) (κ : D → Option R) : freshK c σ e (fun ds => κ (.list ds)) = (ev c ED false σ e).bind κ := by
  unfold freshK
  split
  · show _ = ((args (fun b e => ev c 59 b σ e) _).bind fun ds => cond (decide (ds.length ≤ few)) (some (PyData.list ds)) none).bind κ
    rw [Option.bind_assoc]
    congr 1
    funext ds
    rw [cond_bind]; rfl
  · show _ = ((iter c.N (ev c 59 true σ) _).bind fun xs => lim _).bind κ
    rw [Option.bind_assoc]
    congr 1
    funext xs
    unfold lim
    rw [Option.bind_assoc]
    congr 1
    funext ds
    rw [cond_bind]; rfl
  · show _ = ((iter c.N (ev c 59 true σ) _).bind fun xs => lim _).bind κ
    rw [Option.bind_assoc]
    congr 1
    funext xs
    unfold lim
    rw [Option.bind_assoc]
    congr 1
    funext ds
    rw [cond_bind]; rfl
  · rename_i h1 h2 h3
    have : ev c ED false σ e = none := by
      cases e with
      | List es p => exact absurd rfl (h1 es p)
      | ListComp elt gs sc p =>
        show ev c (59 + 1) false σ _ = none
        unfold ev
        split <;> first | rfl | (rename_i heq; cases heq; done) | skip
        · rename_i heq; cases heq; exact absurd rfl (h2 _ _ _ _ _ _)
        · rename_i heq; cases heq; exact absurd rfl (h3 _ _ _ _ _ _ _ _)
      | _ => cases h
    rw [this]; rfl
/-- arguments, items, with what follows -/
def argsB (f : Bool → Expr → Option D) : List Expr → (List D → Option R) → Option R
  | [], κ => κ []
  | .Starred e _ :: r, κ => (f true e).bind fun d => (items d).bind fun xs => argsB f r fun ys => κ (xs ++ ys)
  | e :: r, κ => (f false e).bind fun d => argsB f r fun ys => κ (d :: ys)
theorem argsB_eq (f : Bool → Expr → Option D) : ∀ (es : List Expr) (κ : List D → Option R), argsB f es κ = (args f es).bind κ
  | [], κ => rfl
  | e :: r, κ => by
    have ih := argsB_eq f r
    cases e <;> first
      | (show (f false _).bind _ = ((f false _).bind fun d => (args f r).bind fun ys => some (d :: ys)).bind κ
         rw [Option.bind_assoc]
         congr 1
         funext d
         rw [Option.bind_assoc, ih]
         rfl)
      | (show (f true _).bind _ = ((f true _).bind fun d => (items d).bind fun xs => (args f r).bind fun ys => some (xs ++ ys)).bind κ
         rw [Option.bind_assoc]
         congr 1
         funext d
         rw [Option.bind_assoc]
         congr 1
         funext xs
         rw [Option.bind_assoc, ih]
         rfl)
theorem freshK_eq' (c : Cfg) (σ : List Sl) (e : Expr) (h : isFresh e = true) {κ : List D → Option R} {κ' : D → Option R} (hk : ∀ ds, κ' (.list ds) = κ ds) : freshK c σ e κ = (ev c ED false σ e).bind κ' := by
  rw [← freshK_eq c σ e h, funext hk]
mutual
def exK (c : Cfg) : Nat → List Sl → Stmt → (Fl → Option R) → Option R
  | 0, _, _, _ => none
  | n + 1, σ, st, κ =>
    match st with
    | .Return (some e) _ => (ev c ED false (σ.map Sl.share) e).bind fun d => κ (.ret d)
    | .If t a b _ => (tst c ED (shareN c.N (esc c.N ED true t) σ) t).bind fun k => cond k (exsK c n (shareN c.N (esc c.N ED true t) σ) a κ) (exsK c n (shareN c.N (esc c.N ED true t) σ) b κ)
    | .Expr (.Call (.Name f p) as [] q) _ => (ev c ED false (shareN c.N (esc c.N ED false (.Call (.Name f p) as [] q)) σ) (.Call (.Name f p) as [] q)).bind fun _ => κ (.next (shareN c.N (esc c.N ED false (.Call (.Name f p) as [] q)) σ))
    | .Assign [.Name x _] e _ => (c.N.idxOf? x).bind fun i => cond (isFresh e)
        (freshK c (shareN c.N (esc c.N ED false e) σ) e fun ds => κ (.next ((shareN c.N (esc c.N ED false e) σ).set i (.ow ds))))
        (cond (isAdd e) ((ev c ED false (shareN c.N (esc c.N ED false e) σ) e).bind fun d => κ (.next ((shareN c.N (esc c.N ED false e) σ).set i (owS d))))
        ((ev c ED false (shareN c.N (esc c.N ED false e) σ) e).bind fun d => κ (.next ((shareN c.N (esc c.N ED false e) σ).set i (.sh d)))))
    | .Assign [.Subscript (.Name x _) (.Constant (.int j) _ _) _] e _ => (c.N.idxOf? x).bind fun i => (ev c ED false (shareN c.N (esc c.N ED false e) σ) e).bind fun d => match (shareN c.N (esc c.N ED false e) σ)[i]? with
        | some (.ow l) => (ixN l.length j).bind fun k => κ (.next ((shareN c.N (esc c.N ED false e) σ).set i (.ow (l.set k d))))
        | _ => none
    | .Expr (.Call (.Attribute (.Name x _) m _) [a] [] _) _ =>
      cond (decide (m = "append")) ((c.N.idxOf? x).bind fun i =>
        (ev c ED false (shareN c.N (esc c.N ED false a) σ) a).bind fun d => match (shareN c.N (esc c.N ED false a) σ)[i]? with
          | some (.ow l) => cond (decide (l.length < few)) (κ (.next ((shareN c.N (esc c.N ED false a) σ).set i (.ow (l ++ [d]))))) none
          | _ => none) (cond (decide (m = "extend") && isFresh a) ((c.N.idxOf? x).bind fun i =>
        freshK c (shareN c.N (esc c.N ED false a) σ) a fun ds => match (shareN c.N (esc c.N ED false a) σ)[i]? with
          | some (.ow l) => cond (decide (l.length + ds.length ≤ few)) (κ (.next ((shareN c.N (esc c.N ED false a) σ).set i (.ow (l ++ ds))))) none
          | _ => none) none)
    | .Assign [.Tuple es k p] (.Tuple as k2 p2) _ => argsB (fun b e => ev c 59 b (shareN c.N (esc c.N ED false (.Tuple as k2 p2)) σ) e) as fun ds => cond (decide (ds.length ≤ few))
        ((asgs c.N es ds (shareN c.N (esc c.N ED false (.Tuple as k2 p2)) σ)).bind fun σ' => κ (.next σ')) none
    | .Assign [.Tuple es k p] e _ => (ev c ED false (shareN c.N (esc c.N ED false e) σ) e).bind fun d => (asg c.N (shareN c.N (esc c.N ED false e) σ) (.Tuple es k p) d).bind fun σ' => κ (.next σ')
    | st => (ex c (n + 1) σ st).bind κ
def exsK (c : Cfg) : Nat → List Sl → List Stmt → (Fl → Option R) → Option R
  | 0, _, _, _ => none
  | _ + 1, σ, [], κ => κ (.next σ)
  | n + 1, σ, st :: r, κ => exK c n σ st fun fl => match fl with
    | .next σ' => exsK c n σ' r κ
    | f => κ f
end
theorem exK_eq (c : Cfg) : ∀ n, (∀ σ st (κ : Fl → Option R), exK c n σ st κ = (ex c n σ st).bind κ) ∧ ∀ σ sts (κ : Fl → Option R), exsK c n σ sts κ = (exs c n σ sts).bind κ
  | 0 => ⟨fun _ _ _ => rfl, fun _ _ _ => rfl⟩
  | n + 1 => by
    obtain ⟨i1, i2⟩ := exK_eq c n
    refine ⟨fun σ st κ => ?_, fun σ sts κ => ?_⟩
    · unfold exK
      split
      · rename_i e _
        show (ev c ED false (σ.map Sl.share) e).bind _ = ((ev c ED false (σ.map Sl.share) e).map Fl.ret).bind κ
        cases ev c ED false (σ.map Sl.share) e <;> rfl
      · rename_i t a b _
        unfold ex
        rw [Option.bind_assoc]
        congr 1
        funext k
        cases k with
        | true => exact i2 _ _ _
        | false => exact i2 _ _ _
      · unfold ex
        rw [Option.bind_assoc]
        rfl
      · rename_i x _ e _
        show _ = ((c.N.idxOf? x).bind fun i => (ev c ED false (shareN c.N (esc c.N ED false e) σ) e).bind fun d => some (Fl.next (setOw (shareN c.N (esc c.N ED false e) σ) i (isFresh e || isAdd e) d))).bind κ
        rw [Option.bind_assoc]
        congr 1
        funext i
        rw [Option.bind_assoc]
        cases hf : isFresh e with
        | true =>
          rw [cond_true]
          exact freshK_eq' c _ e hf fun ds => rfl
        | false =>
          rw [cond_false]
          cases ha : isAdd e with
          | true =>
            rw [cond_true]
            congr 1
            funext d
            cases d <;> rfl
          | false =>
            rw [cond_false]
            congr 1
            funext d
            cases d <;> rfl
      · rename_i x _ j _ _ _ e _
        show _ = ((c.N.idxOf? x).bind fun i => (ev c ED false (shareN c.N (esc c.N ED false e) σ) e).bind fun d => match (shareN c.N (esc c.N ED false e) σ)[i]? with
          | some (.ow l) => (ixN l.length j).bind fun k => some (Fl.next ((shareN c.N (esc c.N ED false e) σ).set i (.ow (l.set k d))))
          | _ => none).bind κ
        rw [Option.bind_assoc]
        congr 1
        funext i
        rw [Option.bind_assoc]
        congr 1
        funext d
        generalize (shareN c.N (esc c.N ED false e) σ)[i]? = q
        cases q with
        | none => rfl
        | some s =>
          cases s with
          | ow l =>
            show (ixN l.length j).bind _ = ((ixN l.length j).bind _).bind κ
            cases ixN l.length j <;> rfl
          | _ => rfl
      · rename_i x _ m _ a _ _
        show _ = (cond (decide (m = "append")) _ (cond (decide (m = "extend") && isFresh a) _ none)).bind κ
        cases decide (m = "append") with
        | true =>
          rw [cond_true, cond_true, Option.bind_assoc]
          congr 1
          funext i
          rw [Option.bind_assoc]
          congr 1
          funext d
          generalize (shareN c.N (esc c.N ED false a) σ)[i]? = q
          cases q with
          | none => rfl
          | some s =>
            cases s with
            | ow l =>
              show cond (decide (l.length < few)) _ _ = Option.bind (cond (decide (l.length < few)) _ _) κ
              cases decide (l.length < few) <;> rfl
            | _ => rfl
        | false =>
          rw [cond_false, cond_false]
          cases hq : (decide (m = "extend") && isFresh a) with
          | false => rfl
          | true =>
            have hf : isFresh a = true := (Bool.and_eq_true_iff.mp hq).2
            rw [cond_true, cond_true, Option.bind_assoc]
            congr 1
            funext i
            rw [Option.bind_assoc]
            refine freshK_eq' c _ a hf fun ds => ?_
            generalize (shareN c.N (esc c.N ED false a) σ)[i]? = q
            cases q with
            | none => rfl
            | some s =>
              cases s with
              | ow l =>
                show Option.bind (cond (decide (l.length + ds.length ≤ few)) _ _) κ = cond (decide (l.length + ds.length ≤ few)) _ _
                cases decide (l.length + ds.length ≤ few) <;> rfl
              | _ => rfl
      · rename_i es k p as k2 p2 _
        show _ = (((args (fun b e => ev c 59 b (shareN c.N (esc c.N ED false (.Tuple as k2 p2)) σ) e) as).bind fun ds => cond (decide (ds.length ≤ few)) (some (PyData.tuple ds)) none).bind fun d => (asg c.N (shareN c.N (esc c.N ED false (.Tuple as k2 p2)) σ) (.Tuple es k p) d).map .next).bind κ
        rw [argsB_eq, Option.bind_assoc, Option.bind_assoc]
        congr 1
        funext ds
        cases decide (ds.length ≤ few) with
        | false => rfl
        | true =>
          show _ = ((asgs c.N es ds (shareN c.N (esc c.N ED false (.Tuple as k2 p2)) σ)).map Fl.next).bind κ
          cases asgs c.N es ds (shareN c.N (esc c.N ED false (.Tuple as k2 p2)) σ) <;> rfl
      · rename_i es k p e _ _
        show _ = ((ev c ED false (shareN c.N (esc c.N ED false e) σ) e).bind fun d => (asg c.N (shareN c.N (esc c.N ED false e) σ) (.Tuple es k p) d).map .next).bind κ
        rw [Option.bind_assoc]
        congr 1
        funext d
        cases asg c.N (shareN c.N (esc c.N ED false e) σ) (.Tuple es k p) d <;> rfl
      · rfl
    · cases sts with
      | nil => rfl
      | cons st r =>
        show exK c n σ st _ = ((ex c n σ st).bind _).bind κ
        rw [i1, Option.bind_assoc]
        congr 1
        funext fl
        cases fl with
        | next σ' => exact i2 _ _ _
        | ret d => rfl
        | brk _ => rfl
        | cont _ => rfl
end
/-- how a def ends -/
def endK : Fl → Option D
  | .ret d => some d
  | .next _ => some .none
  | _ => none
theorem callK {P : List Df} {G : GI} {k : Nat} {f : Str} {ds : List D} {d : Df} (h : findD f P = some d) (hpr : d.pr = none) (hl : ds.length = d.np) :
    callN P G (k + 1) f ds = exsK ⟨d.N, G, callN P G k⟩ ED (ds.map Sl.sh ++ List.replicate (d.N.length - d.np) .un) d.body endK := by
  unfold callN
  rw [h]
  simp only [Option.bind_some, hpr]
  show cond (decide (ds.length = d.np)) _ none = _
  rw [decide_eq_true hl, cond_true, (exK_eq _ _).2]
  congr 1
/-- a loop's body, by itself -/
theorem bodyK {c : Cfg} {n : Nat} {σ : List Sl} {b : List Stmt} : exs c n σ b = exsK c n σ b some := by
  rw [(exK_eq c n).2]
  cases exs c n σ b <;> rfl
/-- what a range gives -/
def rng1 (d : D) : Option (List D) := match d with
  | .int j => cond (small62 j) (some (intRange 0 j.toNat)) none
  | _ => none
def rng2 (d d' : D) : Option (List D) := match d, d' with
  | .int i, .int j => cond (small62 i && small62 j) (some (intRange i (j - i).toNat)) none
  | _, _ => none
def prtD (d : D) : Option (Option Int) := match d with
  | .int i => some (some i)
  | _ => none
/-! ways into a text -/
def asgT : Stmt → Expr
  | .Assign [t] _ _ => t
  | _ => .Tuple [] 0 ⟨0, 0, 0, 0⟩
def tupE : Expr → List Expr
  | .Tuple es _ _ => es
  | _ => []
def whT : Stmt → Expr
  | .While t _ _ _ => t
  | _ => .Tuple [] 0 ⟨0, 0, 0, 0⟩
def stAt (b : List Stmt) (i : Nat) : Stmt := b.getD i (.Pass ⟨0, 0, 0, 0⟩)
def forB : Stmt → List Stmt
  | .For _ _ b _ _ => b
  | _ => []
def forT : Stmt → Expr
  | .For t _ _ _ _ => t
  | _ => .Tuple [] 0 ⟨0, 0, 0, 0⟩
def ifA : Stmt → List Stmt
  | .If _ a _ _ => a
  | _ => []
def ifB : Stmt → List Stmt
  | .If _ _ b _ => b
  | _ => []
def whB : Stmt → List Stmt
  | .While _ b _ _ => b
  | _ => []
/-- a target of names -/
def nmT (xs : List Str) : Expr := .Tuple (xs.map fun x => .Name x ⟨0, 0, 0, 0⟩) 0 ⟨0, 0, 0, 0⟩
end EV

namespace EV
open PySem PySem.Spec PyProof.Rows L2
/-! ### try: .. except C as e: return e -/
/-- what this clause wishes: the class fits; the exception is handed out, its object tracked -/
def wEsc (K : PySem.W.Frag) (c : Value) (D : Ends) : WX := fun k d σ H => PySem.W.exmOne K k c = some true ∧ ∃ C dx, k = .ref C ∧ d = some dx ∧ ∀ a, H a = none → D.rt (.ref a) (upd H a (exoA a C dx))
section
variable {X : Cx} {x n : Str} {c : Value} {i : Nat} {body : List Stmt} {np p0 p1 p2 p3 : Pos} {tb : WX → TS}
/-- an object that was made behind the entry, tracked from now on -/
theorem track {pins : List (Addr × Obj)} {σ : L2.St} {H : Hp} {s : Shared} {a C dx : Addr} {oe : Obj} {vs : Array Value} (I : Inv X pins σ H s) (he : s.heap.get? a = some oe) (hz : Zc (.ref C) (some dx) oe) (hf : oe.data = .fields vs) (hn : H a = none) (hs : X.s_0.heap.get? a = none)
    (hl : a ≠ X.env.locals) (hc : ∀ y c, X.env.cells.lookup y = some c → c ≠ a) (hp : ∀ p ∈ X.pn ++ pins, p.1 ≠ a) : Inv X pins σ (upd H a (exoA a C dx)) s := by
  have ne : ∀ {b : Addr} {o : Obj}, X.s_0.heap.get? b = some o → b ≠ a := fun e z => by rw [z, hs] at e; cases e
  have nt : ∀ {b : Addr} {o : HO}, H b = some o → b ≠ a := fun e z => by rw [z, hn] at e; cases e
  have nt0 : ∀ {b : Addr} {o : HO}, X.H_0 b = some o → H b = some o → b ≠ a := fun _ e => nt e
  refine ⟨I.ok, I.os, I.bare, ⟨I.base.keep, I.base.slot, fun b o e n hx => ?_, I.base.there, fun b xs e => ?_, fun b o u e => ?_, fun b ps e => ?_⟩, I.loc, I.cell, ?_, fun y q e => ?_, fun p hq => ?_, fun b o e => ?_, I.len⟩
  · rw [upd_ne (ne e)]; exact I.base.free b o e n hx
  · have := I.base.tups b xs e
    rw [upd_ne (nt this)]; exact this
  · have := I.base.frzs b o u e
    rw [upd_ne (nt this)]; exact this
  · obtain ⟨more, q⟩ := I.base.tbls b ps e
    exact ⟨more, by rw [upd_ne (nt q)]; exact q⟩
  · rw [upd_ne (Ne.symm hl)]; exact I.free
  · rw [upd_ne (hc y q e)]; exact I.freeC y q e
  · obtain ⟨h1, h2, h3⟩ := I.pin p hq
    exact ⟨h1, by rw [upd_ne (hp p hq)]; exact h2, h3⟩
  · by_cases hb : b = a
    · subst hb
      rw [upd_same] at e
      cases e
      exact ⟨⟨oe, vs, he, hz.1, hz.2, hf⟩, ⟨oe, he⟩, fun h1 h2 ⟨o1, v1, z1, z2⟩ k2 => ⟨o1, v1, k2 _ z1, z2⟩⟩
    · rw [upd_ne hb] at e
      exact (I.hok b o e).stay (fun _ _ _ z => z) (fun q hq => by rw [upd_ne (nt hq)]; exact hq) (fun q xs hq => by rw [upd_ne (nt hq)]; exact hq)
theorem ps_try_esc (hs : X.stack = X.env :: X.outer) (hf : X.env.frame = some X.env.locals) (hex : X.ex = []) (hN : X.N.Nodup) (hi : X.N[i]? = some n) (hln : X.env.kindOf n = some .local) (hvis : Vis X.env.scope n) (hdb : (n == ("__debug__" : Str)) = false) (hcd : (n == ("__classdict__" : Str)) = false) (hc : Names X x c)
    (hb : ∀ (W : WX) (pn : List (Addr × Obj)) (xe : Value → Shared → Prop), Takes (X.tr pn xe) W → PassesOwn (model X.prog X.w) X.A X.env xe → PSs (X.tr pn xe) body (tb W)) :
    PS X (.Try body [.ExceptHandler (some (.Name x np)) (some n) [.Return (some (.Name n p2)) p3] p1] [] [] p0) (fun D σ H => tb (wEsc X.K c D) D σ H) := by
  constructor
  intro pins s σ H D I h
  have ok := I.ok
  have hfr : X.A.frames = some (X.env :: X.outer) := ok.frames.trans (by rw [hs])
  let Xe : Value → Shared → Prop := fun e s1 => wpAny (model X.prog X.w) X.A (noteFrame e X.env) (fun _ s2 => wpAny (model X.prog X.w) X.A (setFlight e none) (fun _ s3 => wpAny (model X.prog X.w) X.A (handleBy e X.env [.ExceptHandler (some (.Name x np)) (some n) [.Return (some (.Name n p2)) p3] p1]) (SP X pins D) X.xe s3) X.xe s2) X.xe s1
  have hcatch : Takes (X.tr (X.pn ++ pins) Xe) (wEsc X.K c D) := by
    rintro u s1 ⟨a, B, sI, pins1, σ1, H1, k, d, rfl, J0, nb, up, sky, na, os, ag, hx1, C, dx, rfl, rfl, hD⟩
    have J : Inv X pins σ1 H1 sI := J0.ofTry ok
    have sky1 : Sky B (X.env :: X.outer) a (Zc (.ref C) (some dx)) X.env.locals s1.heap := by rw [← hs]; exact sky
    show wpAny (model X.prog X.w) X.A (noteFrame (.ref a) X.env) _ _ _
    apply Sky.land Zc.steady hfr hf sky1
    intro h2 fl2 up2
    have J2 : Inv X pins σ1 H1 { s1 with heap := h2 } := J.landed nb fl2.1 (up.trans up2) os ag
    obtain ⟨oe2, vs2, he2, hz2, hd2⟩ := fl2.there
    have hBa : B.get? a = none := fl2.2.1
    have nfr : a ∉ frs (X.env :: X.outer) := by
      intro hm
      obtain ⟨_, o1, e1, nd⟩ := fl2.2.2.1.mem hm
      rw [he2] at e1
      cases e1
      exact nd _ hd2
    have nL : a ≠ X.env.locals := fun z => nfr (List.mem_filterMap.mpr ⟨X.env, List.mem_cons_self, z ▸ hf⟩)
    have nF : a ∉ X.fs := fun hm => by
      obtain ⟨e, h1, q⟩ := List.mem_filterMap.mp hm
      exact nfr (List.mem_filterMap.mpr ⟨e, List.mem_cons_of_mem _ h1, q⟩)
    have hs0 : X.s_0.heap.get? a = none := by
      cases e : X.s_0.heap.get? a with
      | none => rfl
      | some o =>
        obtain ⟨o1, e1⟩ := J.base.there a o e (by rw [hex]; simp)
        have := nb a o1 e1 (by rw [hs]; exact nfr)
        rw [hBa] at this
        cases this
    have S2 := J2.suite he2 hd2 na nL nF
    refine wpAny_handleBy_cons (codeAny_handlers_test ?_) (by intro q; cases q)
    have LT2 : PySem.W.Looks (model X.prog X.w) h2 (typeOf (.ref a)) (.ref C) := by
      intro A Q E s k q
      exact wpAny_typeOf_ref (k _ _ he2) (by rw [hz2.1]; exact q)
    have LM := PySem.W.exm_one (M := model X.prog X.w) J2.kIn LT2 hx1
    have test : ∀ {Q : Value → Shared → Prop} {E : Value → Shared → Prop}, Q c { s1 with heap := h2 } → wpAny (model X.prog X.w) (X.A.mark (some (.ref a))) (eval (.Name x np) X.env) Q E { s1 with heap := h2 } := by
      intro Q E q
      obtain ⟨hg, hdbg, hm⟩ := hc
      rcases hm with hm | ⟨hm, hv, hnn⟩
      · exact ld_glob (X := X.suite a ((a, oe2) :: (X.pn ++ pins))) S2 hg hm q hdbg
      · exact ld_blt (X := X.suite a ((a, oe2) :: (X.pn ++ pins))) S2 hg hm hv q hnn hdbg
    refine test (LM.here (codeAny_handlers_suite_as ?_))
    apply HandSPX.lands_againZ fl2
    intro h3 fl3 up3
    have J3 : Inv X pins σ1 H1 { s1 with heap := h3 } := J.landed nb fl3.1 ((up.trans up2).trans up3) os ag
    obtain ⟨oe3, vs3, he3, hz3, hd3⟩ := fl3.there
    have S3 := J3.suite he3 hd3 na nL nF
    have hlen : i < σ1.length := by rw [J3.len]; exact (List.getElem?_eq_some_iff.mp hi).1
    refine store_ok (X := X.suite a ((a, oe3) :: (X.pn ++ pins))) (v := .ref a) S3 hN hi (.inl hln) rfl (fun s4 S4 => ?_) (.inr hln)
    have run := (pss_one (ps_ret (pos := p3) (pe_var (X := X.suite a ((a, oe3) :: (X.pn ++ pins))) (pos := p2) hi hvis hdb hcd))).run [] s4 (σ1.set i (some (.ref a))) H1
      { nx := fun _ _ => False, bk := fun _ _ => False, ct := fun _ _ => False, rt := fun v H' => v = .ref a ∧ H' = H1 } S4 ⟨.ref a, by rw [List.getElem?_set_self hlen], rfl, rfl⟩
    refine wpAny_mono run (fun f s5 hsp => ?_) (fun _ _ z => False.elim z)
    match f, hsp with
    | .next, ⟨_, _, _, q⟩ => exact q.elim
    | .brk, ⟨_, _, _, q⟩ => exact q.elim
    | .cont, ⟨_, _, _, q⟩ => exact q.elim
    | .ret u, ⟨v5, σ5, H5, S5, r5, q1, q2⟩ =>
      subst q1 q2
      obtain ⟨hget, hnone, hloc, hfs, hcell⟩ := S5.pin (a, oe3) (List.mem_append_left _ List.mem_cons_self)
      have J5 : Inv X pins σ5 H5 s5 := S5.unsuite ok
      have J6 : Inv X ((a, oe3) :: pins) σ5 H5 s5 := J5.pins_of fun p hp => by
        rcases List.mem_cons.mp hp with rfl | hp
        · exact ⟨hget, hnone, hloc, hfs, hcell⟩
        · exact J5.pin p (List.mem_append_right _ hp)
      refine gone_ok J6 hN hi hln fun s6 J7 => ?_
      obtain ⟨g1, g2, g3, g4, g5⟩ := J7.pin (a, oe3) (List.mem_append_right _ List.mem_cons_self)
      have J8 : Inv X pins (σ5.set i none) H5 s6 := J7.pins_of fun p hp => J7.pin p (List.mem_append_right _ (List.mem_cons_of_mem _ hp))
      have hcl : ∀ y q, X.env.cells.lookup y = some q → q ≠ a := fun y q e z => by
        obtain ⟨v, o, ho, hv⟩ := J8.cell y q e
        rw [z, g1] at ho
        cases ho
        exact g5 _ hv
      have hpn : ∀ p ∈ X.pn ++ pins, p.1 ≠ a := fun p hp z => by
        obtain ⟨e1, _, e3, e4, _⟩ := J.pin p hp
        rw [z] at e1
        have := nb a _ e1 (by rw [hs]; exact nfr)
        rw [hBa] at this
        cases this
      exact ⟨.ref a, _, _, track J8 g1 hz3 hd3 g2 hs0 g3 hcl hpn, r5, hD a hnone⟩
  refine wpAny_Try_except (wpAny_mono ((hb _ (X.pn ++ pins) Xe hcatch PassesOwn.looking).run [] s σ H D (I.toTry _) h) (fun f s1 hsp => ?_) (fun e s1 he => he))
  match f, hsp with
  | .next, ⟨σ1, H1, J1, q⟩ => exact wpAny_execs_nil ⟨σ1, H1, J1.ofTry ok, q⟩
  | .brk, ⟨σ1, H1, J1, q⟩ => exact ⟨σ1, H1, J1.ofTry ok, q⟩
  | .cont, ⟨σ1, H1, J1, q⟩ => exact ⟨σ1, H1, J1.ofTry ok, q⟩
  | .ret u, ⟨v, σ1, H1, J1, r, q⟩ => exact ⟨v, σ1, H1, J1.ofTry ok, r, q⟩
end
end EV

namespace EV
open PySem PySem.Spec PyProof.Rows L2
/-! ### raise C(v) -/
def tPmE (K : PySem.W.Frag) (x : Str) (ta : TA) : L2.St → Hp → XK → Prop := fun σ H Q => ta σ H fun vs H1 => ∃ v, vs = [v] ∧ ∀ C dx, H1 dx = none → PySem.W.nsIn K mainGlobals x = some (some (.ref C)) → Q (.ref C) (some dx) (upd H1 dx (.xd [("at", v)]))
section
variable {X : Cx} {k : Nat} {x : Str} {p pos : Pos} {e : Expr} {es : List Expr} {ta : TA}
theorem pmk_mkE (T : ExcAt X.prog X.K X.mg x) (hr : Room (k + 1) X.A) (hg : Gl X x) (ha : PA X (e :: es) ta) (hdb : (x == ("__debug__" : Str)) = false) (he : starEach (e :: es) X.env = (false, eval e X.env) :: starEach es X.env) (hpl : (backTo pos (starEach es X.env)).any (·.1) = false) :
    PMk X (.Call (.Name x p) (e :: es) [] pos) (tPmE X.K x ta) := by
  obtain ⟨C, D, fI, cc, cda, qual, params, scope, p0, p1, p2, p3, p4, p5, p6, p7, p8, p9, pl, hns, hm, hms, TF, TI, hev, hint, hsw1, hsw2, hb⟩ := T
  intro pins s σ H Q I h
  refine wpAny_Call_Name_kw (ld_glob I hg hm ?_ hdb)
  refine PySem.W.callWith_K (h₀ := X.base) I.ok.mod.kin TF.oex.kC (thn (ha.run pos pins s σ H _ I h) fun us s1 ⟨vs, H1, J, r, v, ev, q⟩ => ⟨J.kIn, ?_⟩) he hpl
  subst ev
  cases r with
  | @cons _ u _ _ r0 rr =>
    cases rr
    obtain ⟨hp, g, d, t, os⟩ := s1
    refine make_raw (k := k) J.env0.mod (fun b o e => (J.env0.bs b o e).1) J.env0.bsz TI TF hms hev hint hsw1 hsw2 hr (hb u) fun h' tk t1 a dx kk hza hzd hne hx hn => ?_
    obtain ⟨G, g1, g2⟩ := L2.restrict h' fun b => decide (b ≠ a)
    have nb : ∀ {b : Addr} {o : Obj}, hp.get? b = some o → b ≠ a := fun e => Nat.ne_of_lt (Nat.lt_of_lt_of_le (Heap.lt_size e) hza)
    have kG : ∀ b o, hp.get? b = some o → G.get? b = some o := fun b o e => by rw [g1 b (decide_eq_true (nb e))]; exact kk b o e
    have gk : ∀ b o, G.get? b = some o → h'.get? b = some o := fun b o e => by
      by_cases hb : b = a
      · rw [hb, g2 a (by simp)] at e; cases e
      · rw [g1 b (decide_eq_true hb)] at e; exact e
    have hnG : G.Ns1 dx (fun y => if y = ("at" : Str) then some u else none) := hn.at fun o e => (g1 dx (decide_eq_true hne)).trans e
    have JG : Inv X pins σ (upd H1 dx (.xd [("at", v)])) ⟨G, g, d, tk, os⟩ := J.laid kG hzd ⟨_, hnG, fun f => by
      rw [lookup_put]
      by_cases hf : f = ("at" : Str)
      · rw [if_pos hf, if_pos hf]; exact r0
      · rw [if_neg hf, if_neg hf]; trivial⟩
    exact ⟨a, _, _, ⟨G, g, d, tk, os⟩, _, .ref C, some dx, rfl, JG, gk, g2 a (by simp), hx, ⟨rfl, rfl⟩, rfl, rfl, by rw [upd_ne (Ne.symm hne)]; exact J.hok.fresh hza, rfl, J.bare, raises_own TF.oex.exC TF.oex.tyC, q C dx (J.hok.fresh hzd) hns⟩
end
/-- what raises at each number below 0, which it is handed last -/
def spNeg (K : PySem.W.Frag) (x : Str) (n : Nat) : Sp := fun vs H Q E => ∃ ws i, vs = ws ++ [.int i] ∧ ws.length = n ∧ i < 0 ∧ ∀ H' C dx, Same H H' → H' dx = none → PySem.W.nsIn K mainGlobals x = some (some (.ref C)) → E (.ref C) (some dx) (upd H' dx (.xd [("at", .int i)]))
section
variable {P : Program} {w : World} {K : PySem.W.Frag} {mg : Str → Option Value} {base : Heap} {st : Stmt} {f : Addr} {fd : FuncData} {k j : Nat} {p0 p1 p2 p3 p4 p5 p6 p7 p8 p9 : Pos} {b c x y nm : Str} {N : List Str}
theorem fn_cb (F : Fun K nm nm st f fd) (S : FnScope N [b] (defScope st)) (hN : N = [b]) (hbody : defBody st = [.If (.UnaryOp .Not (.Compare (.Constant (.int 0) j p1) [.LtE, .LtE] [.Name b p2, .Name c p3] p4) p5) [.Raise (some (.Call (.Name x p6) [.Name b p7] [] p8)) none p9] [] p0])
    (hl : (defScope st).names.lookup b = some .local) (hb1 : (b == ("__debug__" : Str)) = false) (hb2 : (b == ("__classdict__" : Str)) = false) (hg : (defScope st).names.lookup x = some .globalImplicit) (hx : (x == ("__debug__" : Str)) = false) (T : ExcAt P K mg x) : FnOk P w K mg base (L2.CX P w) (k + 2) f fd [b] (spNeg K x 0) := by
  refine Fun.okX F S (fun vs H Q E ⟨ws, i, e1, e2, _⟩ => by rw [e1, List.length_append, e2]; rfl) fun cdv A outer s H vs Q E hr ⟨ws, i, e1, e2, hneg, hE⟩ => ?_
  cases ws with
  | cons _ _ => cases e2
  | nil =>
    subst e1 hN
    rw [hbody]
    have hu : (cxOf (L2.CX P w) P w K mg base [b] nm (defScope st) f cdv A outer s H E).A.units + 65 < cLine := by
      have h0 := hr.un
      have h1 : (A.deeper (envOfC nm (defScope st) s.heap.objs.size f cdv)).units + 65 < cLine := by omega
      exact h1
    have hv : SE (cxOf (L2.CX P w) P w K mg base [b] nm (defScope st) f cdv A outer s H E) true (.Name b p2) fun es => (es[0]?).bind (rd true) := se_var rfl (.inl hl) hb1 hb2
    have hc := st_not (pos := p5) (st_chain (pos := p4) (o := .LtE) (o' := .LtE) (e3 := .Name c p3) hu (marks2 rfl) (se_const (pos := p1) (j := j) (k := .int 0) (X := cxOf (L2.CX P w) P w K mg base [b] nm (defScope st) f cdv A outer s H E) (b := true) fun s e => by cases e) hv se_no)
    have hr2 := pmk_mkE (X := cxOf (L2.CX P w) P w K mg base [b] nm (defScope st) f cdv A outer s H E) (k := k) (x := x) (p := p6) (pos := p8) T hr hg (pa_cons (pe_var (pos := p7) (i := 0) rfl (.inl hl) hb1 hb2) pa_nil (starEach_cons (by intro e' p z; cases z) _)) hx (starEach_cons (by intro e' p z; cases z) _) rfl
    refine ⟨_, pss_one (ps_if hc (pss_one (ps_raise rfl (takes_of rfl rfl rfl rfl) hr2)) pss_nil), ?_⟩
    refine ⟨fun _ => False, fun _ => False, [Sl.sh (.int i)], true, fun _ h => h.elim, ?_, ?_, fun H1 s1 => ?_⟩
    · intro n s' e
      cases n with
      | zero => cases e; exact ⟨.int i, rfl, .int i⟩
      | succ n => simp at e
    · have : decide ((0 : Int) ≤ i) = false := decide_eq_false (by omega)
      simp [constD, rd, Sl.val, cmpD, cmpI, this]
    · refine ⟨.int i, rfl, .int i, rfl, fun C dx h1 h2 => hE H1 C dx s1 h1 h2⟩
theorem fn_run (F : Fun K nm nm st f fd) {fc : Addr} {fdc : FuncData} (FC : FnOk P w K mg base (L2.CX P w) k fc fdc [y] (spNeg K x 0)) (hmc : mg c = some (.ref fc)) (hkc : PySem.W.keepIn K (.ref fc) = true) (hbc : Binds K fdc [y] [])
    {z : Str} {rest : List Stmt} (S : FnScope N [z, b] (defScope st)) (hbody : defBody st = .Expr (.Call (.Name c p1) [.Name b p2] [] p3) p4 :: rest) (hN : N[1]? = some b) (hl : Vis (defScope st) b) (hb1 : (b == ("__debug__" : Str)) = false) (hb2 : (b == ("__classdict__" : Str)) = false)
    (hg : (defScope st).names.lookup c = some .globalImplicit) (hc : (c == ("__debug__" : Str)) = false) : FnOk P w K mg base (L2.CX P w) (k + 1) f fd [z, b] (spNeg K x 1) := by
  refine Fun.okX F S (fun vs H Q E ⟨ws, i, e1, e2, _⟩ => by rw [e1, List.length_append, e2]; rfl) fun cdv A outer s H vs Q E hr ⟨ws, i, e1, e2, hneg, hE⟩ => ?_
  obtain ⟨v, rfl⟩ : ∃ v, ws = [v] := by
    cases ws with
    | nil => cases e2
    | cons v r => cases r with
      | nil => exact ⟨v, rfl⟩
      | cons _ _ => cases e2
  subst e1
  rw [hbody]
  have tk : Takes (cxOf (L2.CX P w) P w K mg base N nm (defScope st) f cdv A outer s H E) (fun cls d _ H => E cls d H) := takes_of rfl rfl rfl rfl
  have call := pe_callS (X := cxOf (L2.CX P w) P w K mg base N nm (defScope st) f cdv A outer s H E) (x := c) (p := p1) (pos := p3) FC hr hg hmc hkc hbc (fun σ => passAt tk σ) (pa_cons (pe_var (pos := p2) (i := 1) hN hl hb1 hb2) pa_nil (starEach_cons (by intro e' p z; cases z) _)) hc (starEach_cons (by intro e' p z; cases z) _) rfl
  refine ⟨_, pss_cons (ps_expr call) pss_never, ?_⟩
  refine ⟨.int i, by simp [L2.start], [], i, rfl, rfl, hneg, fun H' C dx s1 h1 h2 => hE H' C dx s1 h1 h2⟩
/-- what comes of a call that is caught so -/
def gRaised (x : Str) : List D → Option D
  | [.int i] => cond (decide (i < 0)) (some (excD x (.int i))) none
  | _ => none
theorem fn_raised (F : Fun K nm nm st f fd) {fr : Addr} {fdr : FuncData} {r m z le n : Str} {i : Nat} {CL : Addr} (FR : FnOk P w K mg base (L2.CX P w) k fr fdr [z, b] (spNeg K x 1)) (hmr : mg r = some (.ref fr)) (hkr : PySem.W.keepIn K (.ref fr) = true) (hbr : Binds K fdr [z, b] [])
    (S : FnScope N [m] (defScope st)) {u : Str} {rest : List Stmt} {jt : Nat} {q0 q1 q2 q3 q4 : Pos} (hbody : defBody st = .Try [.Expr (.Call (.Name r p1) [.Tuple [.Constant (.str u) j p2] jt p3, .Name m p4] [] p5) p6] [.ExceptHandler (some (.Name le q0)) (some n) [.Return (some (.Name n q2)) q3] q1] [] [] q4 :: rest)
    (hu : PyData.canLay0 (.str u) = true) (hm : N[0]? = some m) (hml : Vis (defScope st) m) (hm1 : (m == ("__debug__" : Str)) = false) (hm2 : (m == ("__classdict__" : Str)) = false) (hi : N[i]? = some n) (hn : (defScope st).names.lookup n = some .local) (hn1 : (n == ("__debug__" : Str)) = false) (hn2 : (n == ("__classdict__" : Str)) = false)
    (hgr : (defScope st).names.lookup r = some .globalImplicit) (hr1 : (r == ("__debug__" : Str)) = false) (hgl : (defScope st).names.lookup le = some .globalImplicit) (hl1 : (le == ("__debug__" : Str)) = false) (hle : mg le = some (.ref CL))
    (hns : ∃ C, PySem.W.nsIn K mainGlobals x = some (some (.ref C))) (hex : ∀ C, PySem.W.nsIn K mainGlobals x = some (some (.ref C)) → PySem.W.exmOne K (.ref C) (.ref CL) = some true) : FnG P w K mg base (k + 1) f fd [m] (spD K w (gRaised x)) := by
  have gr1 : ∀ {ds : List D} {d : D}, gRaised x ds = some d → ∃ i, ds = [.int i] ∧ i < 0 ∧ d = excD x (.int i) := fun {ds d} e => by
    unfold gRaised at e
    split at e
    · obtain ⟨c, e⟩ := cond_some e
      exact ⟨_, rfl, of_decide_eq_true c, (Option.some.inj e).symm⟩
    · cases e
  refine Fun.okG F S (fun vs H Q E ⟨O, ds, d, hO, rr, e, q⟩ => by obtain ⟨v, rfl, _⟩ := gr1 e; rw [rr.length]; rfl) fun cdv A outer s H vs Q E hr hgd ⟨O, ds, d, hO, rr, e, q⟩ => ?_
  obtain ⟨v, rfl, hneg, rfl⟩ := gr1 e
  obtain ⟨hv⟩ : vs = [.int v] := by
    cases rr with | cons h t => cases t; cases h; rfl
  rw [hbody]
  have body : ∀ (W : WX) (pn : List (Addr × Obj)) (xe : Value → Shared → Prop), Takes ((cxOf CX0 P w K mg base N nm (defScope st) f cdv A outer s H E).nox.tr pn xe) W → PassesOwn (model (cxOf CX0 P w K mg base N nm (defScope st) f cdv A outer s H E).nox.prog (cxOf CX0 P w K mg base N nm (defScope st) f cdv A outer s H E).nox.w) (cxOf CX0 P w K mg base N nm (defScope st) f cdv A outer s H E).nox.A (cxOf CX0 P w K mg base N nm (defScope st) f cdv A outer s H E).nox.env xe →
      PSs ((cxOf CX0 P w K mg base N nm (defScope st) f cdv A outer s H E).nox.tr pn xe) [.Expr (.Call (.Name r p1) [.Tuple [.Constant (.str u) j p2] jt p3, .Name m p4] [] p5) p6] (fun D σ H => tCallS (spNeg K x 1) (WE W) (tCons (tE K w false fun σ => (some [PyData.str u]).bind fun ds => cond (decide (ds.length ≤ few)) (some (PyData.tuple ds)) none) (tCons (tVar 0) tNil)) σ H fun v H' => D.nx σ H') := by
    intro W pn xe tk _
    have a1 := se_tuple (X := (cxOf CX0 P w K mg base N nm (defScope st) f cdv A outer s H E).nox.tr pn xe) (b := false) (pos := p3) (k := jt) (sa_cons (b := false) (e := .Constant (.str u) j p2) (by intro e' p z; cases z) (se_const (pos := p2) (j := j) (k := .str u) (X := (cxOf CX0 P w K mg base N nm (defScope st) f cdv A outer s H E).nox.tr pn xe) (b := false) fun s e => by cases e; exact hu) sa_nil)
    have call := pe_callS (X := (cxOf CX0 P w K mg base N nm (defScope st) f cdv A outer s H E).nox.tr pn xe) (x := r) (p := p1) (pos := p5) FR hr hgr hmr hkr hbr (fun σ => passAt tk σ) (pa_cons a1 (pa_cons (pe_var (pos := p4) (i := 0) hm hml hm1 hm2) pa_nil (starEach_cons (by intro e' p z; cases z) _)) (starEach_cons (by intro e' p z; cases z) _)) hr1 (starEach_cons (by intro e' p z; cases z) _) rfl
    exact pss_one (ps_expr call)
  have tr := ps_try_esc (X := (cxOf CX0 P w K mg base N nm (defScope st) f cdv A outer s H E).nox) (x := le) (n := n) (c := .ref CL) (i := i) (np := q0) (p0 := q4) (p1 := q1) (p2 := q2) (p3 := q3) rfl rfl rfl S.nd hi hn (.inl hn) hn1 hn2 ⟨hgl, hl1, .inl hle⟩ body
  refine ⟨_, pss_cons tr pss_never, ?_⟩
  have h0 : (L2.start N [V.int v])[0]? = some (some (.int v)) := rfl
  refine ⟨fun _ => False, fun _ => False, [], _, fun _ h => h.elim, (fun n s e => by simp at e), rfl, fun H1 vt s1 r1 => ⟨.int v, h0, [vt], v, rfl, rfl, hneg, fun H2 C dx s2 hdx hC => ?_⟩⟩
  refine ⟨hex C hC, C, dx, rfl, rfl, fun a ha => ?_⟩
  have hne : dx ≠ a := fun z => by rw [← z, upd_same] at ha; cases ha
  exact q _ _ (((s1.trans s2).trans (same_upd hdx)).trans (same_upd ha)) (.exc upd_same (by rw [upd_ne hne, upd_same]) hC (.int v))
end
end EV

set_option maxHeartbeats 0
namespace K11
open PySem PySem.Spec PyProof.Rows L2 EV
def top (i : Nat) : Stmt := PySem.Challenge.pw_typedbydegrees_k11_whole_values_behind_c.main.body.getD i (.Pass ⟨0, 0, 0, 0⟩)
def f_is_type : Df := ⟨"is_type", ["told", ".0", "part"], 1, defBody (top 11), none⟩
def f_size : Df := ⟨"size", ["told", ".0", "part"], 1, defBody (top 12), none⟩
def f_check_type : Df := ⟨"check_type", ["told"], 1, defBody (top 13), none⟩
def f_is_label : Df := ⟨"is_label", ["told"], 1, defBody (top 20), none⟩
def f_is_place : Df := ⟨"is_place", ["told"], 1, defBody (top 21), none⟩
def f_turned : Df := ⟨"turned", ["label"], 1, defBody (top 22), none⟩
def f_is_plain : Df := ⟨"is_plain", ["told", ".0", "part"], 1, defBody (top 23), none⟩
def f_source : Df := ⟨"source", ["told"], 1, defBody (top 24), none⟩
def f_is_middle : Df := ⟨"is_middle", ["told"], 1, defBody (top 25), none⟩
def f_is_coercion : Df := ⟨"is_coercion", ["told"], 1, defBody (top 26), none⟩
def f_check_coercion : Df := ⟨"check_coercion", ["told"], 1, defBody (top 27), none⟩
def f_identity_of : Df := ⟨"identity_of", ["kind", "parts", ".0", "part"], 1, defBody (top 28), none⟩
def f_identity : Df := ⟨"identity", ["kind"], 1, defBody (top 29), none⟩
def f_made : Df := ⟨"made", ["one", "two", "label"], 3, defBody (top 30), none⟩
def f_wide : Df := ⟨"wide", ["kind", ".0", "_"], 1, defBody (top 31), none⟩
def f_structural : Df := ⟨"structural", ["one", "two", "label", "head", ".0", "a", "b"], 3, defBody (top 32), none⟩
def f_make : Df := ⟨"make", ["one", "two", "label"], 3, defBody (top 33), none⟩
def f_composed : Df := ⟨"composed", ["one", "two"], 2, defBody (top 34), none⟩
def f_behind_tag : Df := ⟨"behind_tag", ["one", "two"], 2, defBody (top 35), none⟩
def f_both : Df := ⟨"both", ["one", "two", "turn", "found", "k"], 2, defBody (top 36), none⟩
def f_do_join : Df := ⟨"do_join", ["one", "two", "turn", "pairs", ".0", "k", "first", "second"], 2, defBody (top 37), none⟩
def f_compose : Df := ⟨"compose", ["one", "two"], 2, defBody (top 38), none⟩
def f_is_value : Df := ⟨"is_value", ["told", "good", ".0", "part"], 1, defBody (top 42), none⟩
def f_seen : Df := ⟨"seen", ["coercion", "value", "inner", ".0", "part"], 2, defBody (top 43), none⟩
def f_does_take : Df := ⟨"does_take", ["coercion", "value", ".0", "part"], 2, defBody (top 44), none⟩
def f_applied : Df := ⟨"applied", ["coercion", "value"], 2, defBody (top 45), none⟩
def f_are_alike : Df := ⟨"are_alike", ["one", "two", ".0", "a", "b"], 2, defBody (top 46), none⟩
def f_alike : Df := ⟨"alike", ["one", "two"], 2, defBody (top 47), none⟩
def f_probes_of : Df := ⟨"probes_of", ["kind", "height", "found", "parts", ".0", "head", "value", "part"], 2, defBody (top 48), none⟩
def f_is_flat : Df := ⟨"is_flat", ["kind", ".0", "part"], 1, defBody (top 49), none⟩
def f_probes : Df := ⟨"probes", ["kind", "height"], 2, defBody (top 50), none⟩
def f_height_of : Df := ⟨"height_of", ["told", ".0", "part"], 1, defBody (top 52), none⟩
def f_height : Df := ⟨"height", ["told"], 1, defBody (top 53), none⟩
def f__law_draws : Df := ⟨"_law_draws", ["script", "draws", "k", "rest", "turn", "mixed"], 1, defBody (top 55), none⟩
def f__law_mix : Df := ⟨"_law_mix", ["draws", "k", "many", "value"], 3, defBody (top 56), none⟩
def f__law_type : Df := ⟨"_law_type", ["draws", "k", "deep", "heads", "head", "parts", ".0", "t"], 4, defBody (top 57), none⟩
def f__law_next : Df := ⟨"_law_next", ["draws", "k", "kind", "deep", "heads", ".0", "t"], 5, defBody (top 58), none⟩
def f__law_seen : Df := ⟨"_law_seen", ["told", "value", "inner", ".0", "k"], 2, defBody (top 59), none⟩
def f__law_value : Df := ⟨"_law_value", ["draws", "k", "kind", "deep", "inner", "wide_v", ".0", "t"], 4, defBody (top 60), none⟩
def f__law_labels : Df := ⟨"_law_labels", ["told", "found", "part"], 1, defBody (top 61), none⟩
def f__law_bare : Df := ⟨"_law_bare", ["told", "found", "part"], 1, defBody (top 62), none⟩
def f__law_made_up : Df := ⟨"_law_made_up", ["draws", "k", "kinds", "here", "kind", "t", "other", "through"], 3, defBody (top 63), none⟩
def f_law : Df := ⟨"law", ["script", "draws", "heads", "kinds", "t", "rows", "value", "here", "steps", "k", "before", "wide_v", "one", "two", "deep", "same", ".0", "row"], 1, defBody (top 64), none⟩
def T : List Df := [f_is_type, f_size, f_check_type, f_is_label, f_is_place, f_turned, f_is_plain, f_source, f_is_middle, f_is_coercion, f_check_coercion, f_identity_of, f_identity, f_made, f_wide, f_structural, f_make, f_composed, f_behind_tag, f_both, f_do_join, f_compose, f_is_value, f_seen, f_does_take, f_applied, f_are_alike, f_alike, f_probes_of, f_is_flat, f_probes, f_height_of, f_height, f__law_draws, f__law_mix, f__law_type, f__law_next, f__law_seen, f__law_value, f__law_labels, f__law_bare, f__law_made_up, f_law]
def xsL : List Str := ([] : List Str)
def fns : List Str := ((["is_type", "size", "check_type", "is_label", "is_place", "turned", "is_plain", "source", "is_middle", "is_coercion", "check_coercion", "identity_of", "identity", "made", "wide"] : List Str) ++ (["structural", "make", "composed", "behind_tag", "both", "do_join", "compose", "is_value", "seen", "does_take", "applied", "are_alike", "alike", "probes_of", "is_flat"] : List Str) ++ (["probes", "height_of", "height", "_law_draws", "_law_mix", "_law_type", "_law_next", "_law_seen", "_law_value", "_law_labels", "_law_bare", "_law_made_up", "law"] : List Str)) ++ xsL
def hd : Hd where
  fn := [ddOf "is_type" (top 11), ddOf "size" (top 12), ddOf "check_type" (top 13), ddOf "is_label" (top 20), ddOf "is_place" (top 21), ddOf "turned" (top 22), ddOf "is_plain" (top 23), ddOf "source" (top 24), ddOf "is_middle" (top 25), ddOf "is_coercion" (top 26), ddOf "check_coercion" (top 27), ddOf "identity_of" (top 28), ddOf "identity" (top 29), ddOf "made" (top 30), ddOf "wide" (top 31), ddOf "structural" (top 32), ddOf "make" (top 33), ddOf "composed" (top 34), ddOf "behind_tag" (top 35), ddOf "both" (top 36), ddOf "do_join" (top 37), ddOf "compose" (top 38), ddOf "is_value" (top 42), ddOf "seen" (top 43), ddOf "does_take" (top 44), ddOf "applied" (top 45), ddOf "are_alike" (top 46), ddOf "alike" (top 47), ddOf "probes_of" (top 48), ddOf "is_flat" (top 49), ddOf "probes" (top 50), ddOf "height_of" (top 52), ddOf "height" (top 53), ddOf "_law_draws" (top 55), ddOf "_law_mix" (top 56), ddOf "_law_type" (top 57), ddOf "_law_next" (top 58), ddOf "_law_seen" (top 59), ddOf "_law_value" (top 60), ddOf "_law_labels" (top 61), ddOf "_law_bare" (top 62), ddOf "_law_made_up" (top 63), ddOf "law" (top 64)]
  free := names0
  cs := [("HOLE", .tuple [.str "?"]), ("MOST_SIZE", .int 60), ("ANY", .tuple [.str "id?"]), ("BASES", .tuple [.str "int", .str "bool", .str "unit"]), ("HEADS", .tuple [.str "int", .str "bool", .str "unit", .str "fun", .str "pair", .str "cell", .str "list"]), ("MOST_HEIGHT", .int 4)]
  ts := [("PARTS_types", [("?", .int 0), ("int", .int 0), ("bool", .int 0), ("unit", .int 0), ("fun", .int 2), ("pair", .int 2), ("cell", .int 1), ("list", .int 1)]), ("PARTS_forms", [("fun", .int 2), ("pair", .int 2), ("cell", .int 2), ("list", .int 1)]), ("TURNED", [("fun", .int 1), ("cell", .int 2)]), ("PLAIN", [("int", .tuple [.str "int", .int 0]), ("bool", .tuple [.str "bool", .bool true]), ("unit", .tuple [.str "unit"])])]
theorem ck_is_type : ckDf fns (top 11) f_is_type = true := by kernel_rfl
theorem bd_is_type : BindOk (top 11) "is_type" := fun _ _ _ _ _ _ us hl => match us, hl with | [_], _ => rfl
theorem ck_size : ckDf fns (top 12) f_size = true := by kernel_rfl
theorem bd_size : BindOk (top 12) "size" := fun _ _ _ _ _ _ us hl => match us, hl with | [_], _ => rfl
theorem ck_check_type : ckDf fns (top 13) f_check_type = true := by kernel_rfl
theorem bd_check_type : BindOk (top 13) "check_type" := fun _ _ _ _ _ _ us hl => match us, hl with | [_], _ => rfl
theorem ck_is_label : ckDf fns (top 20) f_is_label = true := by kernel_rfl
theorem bd_is_label : BindOk (top 20) "is_label" := fun _ _ _ _ _ _ us hl => match us, hl with | [_], _ => rfl
theorem ck_is_place : ckDf fns (top 21) f_is_place = true := by kernel_rfl
theorem bd_is_place : BindOk (top 21) "is_place" := fun _ _ _ _ _ _ us hl => match us, hl with | [_], _ => rfl
theorem ck_turned : ckDf fns (top 22) f_turned = true := by kernel_rfl
theorem bd_turned : BindOk (top 22) "turned" := fun _ _ _ _ _ _ us hl => match us, hl with | [_], _ => rfl
theorem ck_is_plain : ckDf fns (top 23) f_is_plain = true := by kernel_rfl
theorem bd_is_plain : BindOk (top 23) "is_plain" := fun _ _ _ _ _ _ us hl => match us, hl with | [_], _ => rfl
theorem ck_source : ckDf fns (top 24) f_source = true := by kernel_rfl
theorem bd_source : BindOk (top 24) "source" := fun _ _ _ _ _ _ us hl => match us, hl with | [_], _ => rfl
theorem ck_is_middle : ckDf fns (top 25) f_is_middle = true := by kernel_rfl
theorem bd_is_middle : BindOk (top 25) "is_middle" := fun _ _ _ _ _ _ us hl => match us, hl with | [_], _ => rfl
theorem ck_is_coercion : ckDf fns (top 26) f_is_coercion = true := by kernel_rfl
theorem bd_is_coercion : BindOk (top 26) "is_coercion" := fun _ _ _ _ _ _ us hl => match us, hl with | [_], _ => rfl
theorem ck_check_coercion : ckDf fns (top 27) f_check_coercion = true := by kernel_rfl
theorem bd_check_coercion : BindOk (top 27) "check_coercion" := fun _ _ _ _ _ _ us hl => match us, hl with | [_], _ => rfl
theorem ck_identity_of : ckDf fns (top 28) f_identity_of = true := by kernel_rfl
theorem bd_identity_of : BindOk (top 28) "identity_of" := fun _ _ _ _ _ _ us hl => match us, hl with | [_], _ => rfl
theorem ck_identity : ckDf fns (top 29) f_identity = true := by kernel_rfl
theorem bd_identity : BindOk (top 29) "identity" := fun _ _ _ _ _ _ us hl => match us, hl with | [_], _ => rfl
theorem ck_made : ckDf fns (top 30) f_made = true := by kernel_rfl
theorem bd_made : BindOk (top 30) "made" := fun _ _ _ _ _ _ us hl => match us, hl with | [_, _, _], _ => rfl
theorem ck_wide : ckDf fns (top 31) f_wide = true := by kernel_rfl
theorem bd_wide : BindOk (top 31) "wide" := fun _ _ _ _ _ _ us hl => match us, hl with | [_], _ => rfl
theorem ck_structural : ckDf fns (top 32) f_structural = true := by kernel_rfl
theorem bd_structural : BindOk (top 32) "structural" := fun _ _ _ _ _ _ us hl => match us, hl with | [_, _, _], _ => rfl
theorem ck_make : ckDf fns (top 33) f_make = true := by kernel_rfl
theorem bd_make : BindOk (top 33) "make" := fun _ _ _ _ _ _ us hl => match us, hl with | [_, _, _], _ => rfl
theorem ck_composed : ckDf fns (top 34) f_composed = true := by kernel_rfl
theorem bd_composed : BindOk (top 34) "composed" := fun _ _ _ _ _ _ us hl => match us, hl with | [_, _], _ => rfl
theorem ck_behind_tag : ckDf fns (top 35) f_behind_tag = true := by kernel_rfl
theorem bd_behind_tag : BindOk (top 35) "behind_tag" := fun _ _ _ _ _ _ us hl => match us, hl with | [_, _], _ => rfl
theorem ck_both : ckDf fns (top 36) f_both = true := by kernel_rfl
theorem bd_both : BindOk (top 36) "both" := fun _ _ _ _ _ _ us hl => match us, hl with | [_, _], _ => rfl
theorem ck_do_join : ckDf fns (top 37) f_do_join = true := by kernel_rfl
theorem bd_do_join : BindOk (top 37) "do_join" := fun _ _ _ _ _ _ us hl => match us, hl with | [_, _], _ => rfl
theorem ck_compose : ckDf fns (top 38) f_compose = true := by kernel_rfl
theorem bd_compose : BindOk (top 38) "compose" := fun _ _ _ _ _ _ us hl => match us, hl with | [_, _], _ => rfl
theorem ck_is_value : ckDf fns (top 42) f_is_value = true := by kernel_rfl
theorem bd_is_value : BindOk (top 42) "is_value" := fun _ _ _ _ _ _ us hl => match us, hl with | [_], _ => rfl
theorem ck_seen : ckDf fns (top 43) f_seen = true := by kernel_rfl
theorem bd_seen : BindOk (top 43) "seen" := fun _ _ _ _ _ _ us hl => match us, hl with | [_, _], _ => rfl
theorem ck_does_take : ckDf fns (top 44) f_does_take = true := by kernel_rfl
theorem bd_does_take : BindOk (top 44) "does_take" := fun _ _ _ _ _ _ us hl => match us, hl with | [_, _], _ => rfl
theorem ck_applied : ckDf fns (top 45) f_applied = true := by kernel_rfl
theorem bd_applied : BindOk (top 45) "applied" := fun _ _ _ _ _ _ us hl => match us, hl with | [_, _], _ => rfl
theorem ck_are_alike : ckDf fns (top 46) f_are_alike = true := by kernel_rfl
theorem bd_are_alike : BindOk (top 46) "are_alike" := fun _ _ _ _ _ _ us hl => match us, hl with | [_, _], _ => rfl
theorem ck_alike : ckDf fns (top 47) f_alike = true := by kernel_rfl
theorem bd_alike : BindOk (top 47) "alike" := fun _ _ _ _ _ _ us hl => match us, hl with | [_, _], _ => rfl
theorem ck_probes_of : ckDf fns (top 48) f_probes_of = true := by kernel_rfl
theorem bd_probes_of : BindOk (top 48) "probes_of" := fun _ _ _ _ _ _ us hl => match us, hl with | [_, _], _ => rfl
theorem ck_is_flat : ckDf fns (top 49) f_is_flat = true := by kernel_rfl
theorem bd_is_flat : BindOk (top 49) "is_flat" := fun _ _ _ _ _ _ us hl => match us, hl with | [_], _ => rfl
theorem ck_probes : ckDf fns (top 50) f_probes = true := by kernel_rfl
theorem bd_probes : BindOk (top 50) "probes" := fun _ _ _ _ _ _ us hl => match us, hl with | [_, _], _ => rfl
theorem ck_height_of : ckDf fns (top 52) f_height_of = true := by kernel_rfl
theorem bd_height_of : BindOk (top 52) "height_of" := fun _ _ _ _ _ _ us hl => match us, hl with | [_], _ => rfl
theorem ck_height : ckDf fns (top 53) f_height = true := by kernel_rfl
theorem bd_height : BindOk (top 53) "height" := fun _ _ _ _ _ _ us hl => match us, hl with | [_], _ => rfl
theorem ck__law_draws : ckDf fns (top 55) f__law_draws = true := by kernel_rfl
theorem bd__law_draws : BindOk (top 55) "_law_draws" := fun _ _ _ _ _ _ us hl => match us, hl with | [_], _ => rfl
theorem ck__law_mix : ckDf fns (top 56) f__law_mix = true := by kernel_rfl
theorem bd__law_mix : BindOk (top 56) "_law_mix" := fun _ _ _ _ _ _ us hl => match us, hl with | [_, _, _], _ => rfl
theorem ck__law_type : ckDf fns (top 57) f__law_type = true := by kernel_rfl
theorem bd__law_type : BindOk (top 57) "_law_type" := fun _ _ _ _ _ _ us hl => match us, hl with | [_, _, _, _], _ => rfl
theorem ck__law_next : ckDf fns (top 58) f__law_next = true := by kernel_rfl
theorem bd__law_next : BindOk (top 58) "_law_next" := fun _ _ _ _ _ _ us hl => match us, hl with | [_, _, _, _, _], _ => rfl
theorem ck__law_seen : ckDf fns (top 59) f__law_seen = true := by kernel_rfl
theorem bd__law_seen : BindOk (top 59) "_law_seen" := fun _ _ _ _ _ _ us hl => match us, hl with | [_, _], _ => rfl
theorem ck__law_value : ckDf fns (top 60) f__law_value = true := by kernel_rfl
theorem bd__law_value : BindOk (top 60) "_law_value" := fun _ _ _ _ _ _ us hl => match us, hl with | [_, _, _, _], _ => rfl
theorem ck__law_labels : ckDf fns (top 61) f__law_labels = true := by kernel_rfl
theorem bd__law_labels : BindOk (top 61) "_law_labels" := fun _ _ _ _ _ _ us hl => match us, hl with | [_], _ => rfl
theorem ck__law_bare : ckDf fns (top 62) f__law_bare = true := by kernel_rfl
theorem bd__law_bare : BindOk (top 62) "_law_bare" := fun _ _ _ _ _ _ us hl => match us, hl with | [_], _ => rfl
theorem ck__law_made_up : ckDf fns (top 63) f__law_made_up = true := by kernel_rfl
theorem bd__law_made_up : BindOk (top 63) "_law_made_up" := fun _ _ _ _ _ _ us hl => match us, hl with | [_, _, _], _ => rfl
theorem ck_law : ckDf fns (top 64) f_law = true := by kernel_rfl
theorem bd_law : BindOk (top 64) "law" := fun _ _ _ _ _ _ us hl => match us, hl with | [_], _ => rfl
abbrev R : PySem.W.OpenRow := PySem.W.OpenLaw.row PySem.Challenge.rw_typedbydegrees_k11_whole_values_behind_c
abbrev hk : PySem.W.Hook := hd.hook 4
def ob (s : PySem.W.SharedT) : HdV := hd.obsG 4 (HandSHeadRun.getT s)
theorem ob_eq (s : PySem.W.SharedT) : ob s = hk.obs s.abs := Hd.obsG_eq (HandSHeadRun.getT_eq s)
def loose0 : List Str := ["LanguageError", "BadType", "BadCoercion", "BadLabel", "BadTypes", "BadValue", "HOLE", "PARTS_types", "MOST_SIZE", "is_type", "size", "check_type", "ANY", "BASES", "HEADS", "PARTS_forms", "TURNED", "is_label", "is_place", "turned", "is_plain", "source", "is_middle", "is_coercion", "check_coercion", "identity_of", "identity", "made", "wide", "structural"]
def loose1 : List Str := ["make", "composed", "behind_tag", "both", "do_join", "compose", "PLAIN", "MOST_HEIGHT", "is_value", "seen", "does_take", "applied", "are_alike", "alike", "probes_of", "is_flat", "probes", "height_of", "height", "_law_draws", "_law_mix", "_law_type", "_law_next", "_law_seen", "_law_value", "_law_labels", "_law_bare", "_law_made_up"]
def loose : List Str := loose0 ++ loose1
theorem run0 (w : World) : HandSHeadRun.RunEq R (PySem.W.view R.prog [64]) hk ob 20000 loose (w.withFollow "special-get-raises" false) := by
  intro os
  kernel_rfl
theorem run1 (w : World) : HandSHeadRun.RunEq R (PySem.W.view R.prog [64]) hk ob 20000 loose (w.withFollow "special-get-raises" true) := by
  intro os
  kernel_rfl
theorem run (w : World) : HandSHeadRun.RunEq R (PySem.W.view R.prog [64]) hk ob 20000 loose w := PySem.W.byRow2 "special-get-raises" (P := fun w => HandSHeadRun.RunEq R (PySem.W.view R.prog [64]) hk ob 20000 loose w) run0 run1 w
section
variable {K : PySem.W.Frag} {w : World} {hp : Heap} {mg : Str → Option Value}
theorem iniok : IniOk PySem.Challenge.pw_typedbydegrees_k11_whole_values_behind_c hd := .inl rfl
theorem mgok (c : hd.obs K = hd.val w) (X : K.In hp) (N : hp.Ns mainGlobals mg) : MgOk PySem.Challenge.pw_typedbydegrees_k11_whole_values_behind_c K w mg hd.G := Hd.mgOk c X N iniok fun _ z => z
theorem dfin (base : Heap) (c : hd.obs K = hd.val w) (X : K.In hp) (N : hp.Ns mainGlobals mg) : ∀ d ∈ T, (∃ st, DfIn K mg fns st d) ∨ PrIn PySem.Challenge.pw_typedbydegrees_k11_whole_values_behind_c w K mg base d := by
  intro d hd
  simp only [T, List.mem_cons, List.not_mem_nil, or_false] at hd
  rcases hd with rfl | rfl | rfl | rfl | rfl | rfl | rfl | rfl | rfl | rfl | rfl | rfl | rfl | rfl | rfl | rfl | rfl | rfl | rfl | rfl | rfl | rfl | rfl | rfl | rfl | rfl | rfl | rfl | rfl | rfl | rfl | rfl | rfl | rfl | rfl | rfl | rfl | rfl | rfl | rfl | rfl | rfl | rfl
  · exact .inl ⟨top 11, Hd.dfIn c X N (.head _) bd_is_type rfl ck_is_type rfl⟩
  · exact .inl ⟨top 12, Hd.dfIn c X N (.tail _ (.head _)) bd_size rfl ck_size rfl⟩
  · exact .inl ⟨top 13, Hd.dfIn c X N (.tail _ (.tail _ (.head _))) bd_check_type rfl ck_check_type rfl⟩
  · exact .inl ⟨top 20, Hd.dfIn c X N (.tail _ (.tail _ (.tail _ (.head _)))) bd_is_label rfl ck_is_label rfl⟩
  · exact .inl ⟨top 21, Hd.dfIn c X N (.tail _ (.tail _ (.tail _ (.tail _ (.head _))))) bd_is_place rfl ck_is_place rfl⟩
  · exact .inl ⟨top 22, Hd.dfIn c X N (.tail _ (.tail _ (.tail _ (.tail _ (.tail _ (.head _)))))) bd_turned rfl ck_turned rfl⟩
  · exact .inl ⟨top 23, Hd.dfIn c X N (.tail _ (.tail _ (.tail _ (.tail _ (.tail _ (.tail _ (.head _))))))) bd_is_plain rfl ck_is_plain rfl⟩
  · exact .inl ⟨top 24, Hd.dfIn c X N (.tail _ (.tail _ (.tail _ (.tail _ (.tail _ (.tail _ (.tail _ (.head _)))))))) bd_source rfl ck_source rfl⟩
  · exact .inl ⟨top 25, Hd.dfIn c X N (.tail _ (.tail _ (.tail _ (.tail _ (.tail _ (.tail _ (.tail _ (.tail _ (.head _))))))))) bd_is_middle rfl ck_is_middle rfl⟩
  · exact .inl ⟨top 26, Hd.dfIn c X N (.tail _ (.tail _ (.tail _ (.tail _ (.tail _ (.tail _ (.tail _ (.tail _ (.tail _ (.head _)))))))))) bd_is_coercion rfl ck_is_coercion rfl⟩
  · exact .inl ⟨top 27, Hd.dfIn c X N (.tail _ (.tail _ (.tail _ (.tail _ (.tail _ (.tail _ (.tail _ (.tail _ (.tail _ (.tail _ (.head _))))))))))) bd_check_coercion rfl ck_check_coercion rfl⟩
  · exact .inl ⟨top 28, Hd.dfIn c X N (.tail _ (.tail _ (.tail _ (.tail _ (.tail _ (.tail _ (.tail _ (.tail _ (.tail _ (.tail _ (.tail _ (.head _)))))))))))) bd_identity_of rfl ck_identity_of rfl⟩
  · exact .inl ⟨top 29, Hd.dfIn c X N (.tail _ (.tail _ (.tail _ (.tail _ (.tail _ (.tail _ (.tail _ (.tail _ (.tail _ (.tail _ (.tail _ (.tail _ (.head _))))))))))))) bd_identity rfl ck_identity rfl⟩
  · exact .inl ⟨top 30, Hd.dfIn c X N (.tail _ (.tail _ (.tail _ (.tail _ (.tail _ (.tail _ (.tail _ (.tail _ (.tail _ (.tail _ (.tail _ (.tail _ (.tail _ (.head _)))))))))))))) bd_made rfl ck_made rfl⟩
  · exact .inl ⟨top 31, Hd.dfIn c X N (.tail _ (.tail _ (.tail _ (.tail _ (.tail _ (.tail _ (.tail _ (.tail _ (.tail _ (.tail _ (.tail _ (.tail _ (.tail _ (.tail _ (.head _))))))))))))))) bd_wide rfl ck_wide rfl⟩
  · exact .inl ⟨top 32, Hd.dfIn c X N (.tail _ (.tail _ (.tail _ (.tail _ (.tail _ (.tail _ (.tail _ (.tail _ (.tail _ (.tail _ (.tail _ (.tail _ (.tail _ (.tail _ (.tail _ (.head _)))))))))))))))) bd_structural rfl ck_structural rfl⟩
  · exact .inl ⟨top 33, Hd.dfIn c X N (.tail _ (.tail _ (.tail _ (.tail _ (.tail _ (.tail _ (.tail _ (.tail _ (.tail _ (.tail _ (.tail _ (.tail _ (.tail _ (.tail _ (.tail _ (.tail _ (.head _))))))))))))))))) bd_make rfl ck_make rfl⟩
  · exact .inl ⟨top 34, Hd.dfIn c X N (.tail _ (.tail _ (.tail _ (.tail _ (.tail _ (.tail _ (.tail _ (.tail _ (.tail _ (.tail _ (.tail _ (.tail _ (.tail _ (.tail _ (.tail _ (.tail _ (.tail _ (.head _)))))))))))))))))) bd_composed rfl ck_composed rfl⟩
  · exact .inl ⟨top 35, Hd.dfIn c X N (.tail _ (.tail _ (.tail _ (.tail _ (.tail _ (.tail _ (.tail _ (.tail _ (.tail _ (.tail _ (.tail _ (.tail _ (.tail _ (.tail _ (.tail _ (.tail _ (.tail _ (.tail _ (.head _))))))))))))))))))) bd_behind_tag rfl ck_behind_tag rfl⟩
  · exact .inl ⟨top 36, Hd.dfIn c X N (.tail _ (.tail _ (.tail _ (.tail _ (.tail _ (.tail _ (.tail _ (.tail _ (.tail _ (.tail _ (.tail _ (.tail _ (.tail _ (.tail _ (.tail _ (.tail _ (.tail _ (.tail _ (.tail _ (.head _)))))))))))))))))))) bd_both rfl ck_both rfl⟩
  · exact .inl ⟨top 37, Hd.dfIn c X N (.tail _ (.tail _ (.tail _ (.tail _ (.tail _ (.tail _ (.tail _ (.tail _ (.tail _ (.tail _ (.tail _ (.tail _ (.tail _ (.tail _ (.tail _ (.tail _ (.tail _ (.tail _ (.tail _ (.tail _ (.head _))))))))))))))))))))) bd_do_join rfl ck_do_join rfl⟩
  · exact .inl ⟨top 38, Hd.dfIn c X N (.tail _ (.tail _ (.tail _ (.tail _ (.tail _ (.tail _ (.tail _ (.tail _ (.tail _ (.tail _ (.tail _ (.tail _ (.tail _ (.tail _ (.tail _ (.tail _ (.tail _ (.tail _ (.tail _ (.tail _ (.tail _ (.head _)))))))))))))))))))))) bd_compose rfl ck_compose rfl⟩
  · exact .inl ⟨top 42, Hd.dfIn c X N (.tail _ (.tail _ (.tail _ (.tail _ (.tail _ (.tail _ (.tail _ (.tail _ (.tail _ (.tail _ (.tail _ (.tail _ (.tail _ (.tail _ (.tail _ (.tail _ (.tail _ (.tail _ (.tail _ (.tail _ (.tail _ (.tail _ (.head _))))))))))))))))))))))) bd_is_value rfl ck_is_value rfl⟩
  · exact .inl ⟨top 43, Hd.dfIn c X N (.tail _ (.tail _ (.tail _ (.tail _ (.tail _ (.tail _ (.tail _ (.tail _ (.tail _ (.tail _ (.tail _ (.tail _ (.tail _ (.tail _ (.tail _ (.tail _ (.tail _ (.tail _ (.tail _ (.tail _ (.tail _ (.tail _ (.tail _ (.head _)))))))))))))))))))))))) bd_seen rfl ck_seen rfl⟩
  · exact .inl ⟨top 44, Hd.dfIn c X N (.tail _ (.tail _ (.tail _ (.tail _ (.tail _ (.tail _ (.tail _ (.tail _ (.tail _ (.tail _ (.tail _ (.tail _ (.tail _ (.tail _ (.tail _ (.tail _ (.tail _ (.tail _ (.tail _ (.tail _ (.tail _ (.tail _ (.tail _ (.tail _ (.head _))))))))))))))))))))))))) bd_does_take rfl ck_does_take rfl⟩
  · exact .inl ⟨top 45, Hd.dfIn c X N (.tail _ (.tail _ (.tail _ (.tail _ (.tail _ (.tail _ (.tail _ (.tail _ (.tail _ (.tail _ (.tail _ (.tail _ (.tail _ (.tail _ (.tail _ (.tail _ (.tail _ (.tail _ (.tail _ (.tail _ (.tail _ (.tail _ (.tail _ (.tail _ (.tail _ (.head _)))))))))))))))))))))))))) bd_applied rfl ck_applied rfl⟩
  · exact .inl ⟨top 46, Hd.dfIn c X N (.tail _ (.tail _ (.tail _ (.tail _ (.tail _ (.tail _ (.tail _ (.tail _ (.tail _ (.tail _ (.tail _ (.tail _ (.tail _ (.tail _ (.tail _ (.tail _ (.tail _ (.tail _ (.tail _ (.tail _ (.tail _ (.tail _ (.tail _ (.tail _ (.tail _ (.tail _ (.head _))))))))))))))))))))))))))) bd_are_alike rfl ck_are_alike rfl⟩
  · exact .inl ⟨top 47, Hd.dfIn c X N (.tail _ (.tail _ (.tail _ (.tail _ (.tail _ (.tail _ (.tail _ (.tail _ (.tail _ (.tail _ (.tail _ (.tail _ (.tail _ (.tail _ (.tail _ (.tail _ (.tail _ (.tail _ (.tail _ (.tail _ (.tail _ (.tail _ (.tail _ (.tail _ (.tail _ (.tail _ (.tail _ (.head _)))))))))))))))))))))))))))) bd_alike rfl ck_alike rfl⟩
  · exact .inl ⟨top 48, Hd.dfIn c X N (.tail _ (.tail _ (.tail _ (.tail _ (.tail _ (.tail _ (.tail _ (.tail _ (.tail _ (.tail _ (.tail _ (.tail _ (.tail _ (.tail _ (.tail _ (.tail _ (.tail _ (.tail _ (.tail _ (.tail _ (.tail _ (.tail _ (.tail _ (.tail _ (.tail _ (.tail _ (.tail _ (.tail _ (.head _))))))))))))))))))))))))))))) bd_probes_of rfl ck_probes_of rfl⟩
  · exact .inl ⟨top 49, Hd.dfIn c X N (.tail _ (.tail _ (.tail _ (.tail _ (.tail _ (.tail _ (.tail _ (.tail _ (.tail _ (.tail _ (.tail _ (.tail _ (.tail _ (.tail _ (.tail _ (.tail _ (.tail _ (.tail _ (.tail _ (.tail _ (.tail _ (.tail _ (.tail _ (.tail _ (.tail _ (.tail _ (.tail _ (.tail _ (.tail _ (.head _)))))))))))))))))))))))))))))) bd_is_flat rfl ck_is_flat rfl⟩
  · exact .inl ⟨top 50, Hd.dfIn c X N (.tail _ (.tail _ (.tail _ (.tail _ (.tail _ (.tail _ (.tail _ (.tail _ (.tail _ (.tail _ (.tail _ (.tail _ (.tail _ (.tail _ (.tail _ (.tail _ (.tail _ (.tail _ (.tail _ (.tail _ (.tail _ (.tail _ (.tail _ (.tail _ (.tail _ (.tail _ (.tail _ (.tail _ (.tail _ (.tail _ (.head _))))))))))))))))))))))))))))))) bd_probes rfl ck_probes rfl⟩
  · exact .inl ⟨top 52, Hd.dfIn c X N (.tail _ (.tail _ (.tail _ (.tail _ (.tail _ (.tail _ (.tail _ (.tail _ (.tail _ (.tail _ (.tail _ (.tail _ (.tail _ (.tail _ (.tail _ (.tail _ (.tail _ (.tail _ (.tail _ (.tail _ (.tail _ (.tail _ (.tail _ (.tail _ (.tail _ (.tail _ (.tail _ (.tail _ (.tail _ (.tail _ (.tail _ (.head _)))))))))))))))))))))))))))))))) bd_height_of rfl ck_height_of rfl⟩
  · exact .inl ⟨top 53, Hd.dfIn c X N (.tail _ (.tail _ (.tail _ (.tail _ (.tail _ (.tail _ (.tail _ (.tail _ (.tail _ (.tail _ (.tail _ (.tail _ (.tail _ (.tail _ (.tail _ (.tail _ (.tail _ (.tail _ (.tail _ (.tail _ (.tail _ (.tail _ (.tail _ (.tail _ (.tail _ (.tail _ (.tail _ (.tail _ (.tail _ (.tail _ (.tail _ (.tail _ (.head _))))))))))))))))))))))))))))))))) bd_height rfl ck_height rfl⟩
  · exact .inl ⟨top 55, Hd.dfIn c X N (.tail _ (.tail _ (.tail _ (.tail _ (.tail _ (.tail _ (.tail _ (.tail _ (.tail _ (.tail _ (.tail _ (.tail _ (.tail _ (.tail _ (.tail _ (.tail _ (.tail _ (.tail _ (.tail _ (.tail _ (.tail _ (.tail _ (.tail _ (.tail _ (.tail _ (.tail _ (.tail _ (.tail _ (.tail _ (.tail _ (.tail _ (.tail _ (.tail _ (.head _)))))))))))))))))))))))))))))))))) bd__law_draws rfl ck__law_draws rfl⟩
  · exact .inl ⟨top 56, Hd.dfIn c X N (.tail _ (.tail _ (.tail _ (.tail _ (.tail _ (.tail _ (.tail _ (.tail _ (.tail _ (.tail _ (.tail _ (.tail _ (.tail _ (.tail _ (.tail _ (.tail _ (.tail _ (.tail _ (.tail _ (.tail _ (.tail _ (.tail _ (.tail _ (.tail _ (.tail _ (.tail _ (.tail _ (.tail _ (.tail _ (.tail _ (.tail _ (.tail _ (.tail _ (.tail _ (.head _))))))))))))))))))))))))))))))))))) bd__law_mix rfl ck__law_mix rfl⟩
  · exact .inl ⟨top 57, Hd.dfIn c X N (.tail _ (.tail _ (.tail _ (.tail _ (.tail _ (.tail _ (.tail _ (.tail _ (.tail _ (.tail _ (.tail _ (.tail _ (.tail _ (.tail _ (.tail _ (.tail _ (.tail _ (.tail _ (.tail _ (.tail _ (.tail _ (.tail _ (.tail _ (.tail _ (.tail _ (.tail _ (.tail _ (.tail _ (.tail _ (.tail _ (.tail _ (.tail _ (.tail _ (.tail _ (.tail _ (.head _)))))))))))))))))))))))))))))))))))) bd__law_type rfl ck__law_type rfl⟩
  · exact .inl ⟨top 58, Hd.dfIn c X N (.tail _ (.tail _ (.tail _ (.tail _ (.tail _ (.tail _ (.tail _ (.tail _ (.tail _ (.tail _ (.tail _ (.tail _ (.tail _ (.tail _ (.tail _ (.tail _ (.tail _ (.tail _ (.tail _ (.tail _ (.tail _ (.tail _ (.tail _ (.tail _ (.tail _ (.tail _ (.tail _ (.tail _ (.tail _ (.tail _ (.tail _ (.tail _ (.tail _ (.tail _ (.tail _ (.tail _ (.head _))))))))))))))))))))))))))))))))))))) bd__law_next rfl ck__law_next rfl⟩
  · exact .inl ⟨top 59, Hd.dfIn c X N (.tail _ (.tail _ (.tail _ (.tail _ (.tail _ (.tail _ (.tail _ (.tail _ (.tail _ (.tail _ (.tail _ (.tail _ (.tail _ (.tail _ (.tail _ (.tail _ (.tail _ (.tail _ (.tail _ (.tail _ (.tail _ (.tail _ (.tail _ (.tail _ (.tail _ (.tail _ (.tail _ (.tail _ (.tail _ (.tail _ (.tail _ (.tail _ (.tail _ (.tail _ (.tail _ (.tail _ (.tail _ (.head _)))))))))))))))))))))))))))))))))))))) bd__law_seen rfl ck__law_seen rfl⟩
  · exact .inl ⟨top 60, Hd.dfIn c X N (.tail _ (.tail _ (.tail _ (.tail _ (.tail _ (.tail _ (.tail _ (.tail _ (.tail _ (.tail _ (.tail _ (.tail _ (.tail _ (.tail _ (.tail _ (.tail _ (.tail _ (.tail _ (.tail _ (.tail _ (.tail _ (.tail _ (.tail _ (.tail _ (.tail _ (.tail _ (.tail _ (.tail _ (.tail _ (.tail _ (.tail _ (.tail _ (.tail _ (.tail _ (.tail _ (.tail _ (.tail _ (.tail _ (.head _))))))))))))))))))))))))))))))))))))))) bd__law_value rfl ck__law_value rfl⟩
  · exact .inl ⟨top 61, Hd.dfIn c X N (.tail _ (.tail _ (.tail _ (.tail _ (.tail _ (.tail _ (.tail _ (.tail _ (.tail _ (.tail _ (.tail _ (.tail _ (.tail _ (.tail _ (.tail _ (.tail _ (.tail _ (.tail _ (.tail _ (.tail _ (.tail _ (.tail _ (.tail _ (.tail _ (.tail _ (.tail _ (.tail _ (.tail _ (.tail _ (.tail _ (.tail _ (.tail _ (.tail _ (.tail _ (.tail _ (.tail _ (.tail _ (.tail _ (.tail _ (.head _)))))))))))))))))))))))))))))))))))))))) bd__law_labels rfl ck__law_labels rfl⟩
  · exact .inl ⟨top 62, Hd.dfIn c X N (.tail _ (.tail _ (.tail _ (.tail _ (.tail _ (.tail _ (.tail _ (.tail _ (.tail _ (.tail _ (.tail _ (.tail _ (.tail _ (.tail _ (.tail _ (.tail _ (.tail _ (.tail _ (.tail _ (.tail _ (.tail _ (.tail _ (.tail _ (.tail _ (.tail _ (.tail _ (.tail _ (.tail _ (.tail _ (.tail _ (.tail _ (.tail _ (.tail _ (.tail _ (.tail _ (.tail _ (.tail _ (.tail _ (.tail _ (.tail _ (.head _))))))))))))))))))))))))))))))))))))))))) bd__law_bare rfl ck__law_bare rfl⟩
  · exact .inl ⟨top 63, Hd.dfIn c X N (.tail _ (.tail _ (.tail _ (.tail _ (.tail _ (.tail _ (.tail _ (.tail _ (.tail _ (.tail _ (.tail _ (.tail _ (.tail _ (.tail _ (.tail _ (.tail _ (.tail _ (.tail _ (.tail _ (.tail _ (.tail _ (.tail _ (.tail _ (.tail _ (.tail _ (.tail _ (.tail _ (.tail _ (.tail _ (.tail _ (.tail _ (.tail _ (.tail _ (.tail _ (.tail _ (.tail _ (.tail _ (.tail _ (.tail _ (.tail _ (.tail _ (.head _)))))))))))))))))))))))))))))))))))))))))) bd__law_made_up rfl ck__law_made_up rfl⟩
  · exact .inl ⟨top 64, Hd.dfIn c X N (.tail _ (.tail _ (.tail _ (.tail _ (.tail _ (.tail _ (.tail _ (.tail _ (.tail _ (.tail _ (.tail _ (.tail _ (.tail _ (.tail _ (.tail _ (.tail _ (.tail _ (.tail _ (.tail _ (.tail _ (.tail _ (.tail _ (.tail _ (.tail _ (.tail _ (.tail _ (.tail _ (.tail _ (.tail _ (.tail _ (.tail _ (.tail _ (.tail _ (.tail _ (.tail _ (.tail _ (.tail _ (.tail _ (.tail _ (.tail _ (.tail _ (.tail _ (.head _))))))))))))))))))))))))))))))))))))))))))) bd_law rfl ck_law rfl⟩
theorem fnsT : ∀ f ∈ fns, hd.G.m f = true ∨ ∃ d ∈ T, d.name = f := by
  intro f hf
  have : fns = T.map (·.name) ++ hd.xs := rfl
  rw [this] at hf
  rcases List.mem_append.mp hf with hf | hf
  · obtain ⟨d, hd, e⟩ := List.mem_map.mp hf
    exact .inr ⟨d, hd, e⟩
  · exact .inl (by show hd.xs.contains f = true; simpa using hf)
end
/-- what is left: the law by the evaluator -/
theorem of_ev {k : Nat} (hr : Room (k + 2) callerA) (law : ∀ ns : List Int, ns.length ≤ 63 → (∀ k ∈ ns, Builtin.Int.intBits k ≤ 1048576) → callN T hd.G (k + 1) "law" [.list (ns.map .int)] = some (.bool true)) :
    PySem.W.WalkO (PySem.W.view R.prog [64]) loose (PySem.W.XL (PySem.W.view R.prog [64]) []) hk.says R.toRowW (HandSHeadRun.topDef R.prog 64) [] (fun f vs => PySem.call f vs) := by
  refine walkG (l := PySem.Challenge.rw_typedbydegrees_k11_whole_values_behind_c) (n := 63) (k := k + 2) (x := "script") rfl (by decide) (by kernel_rfl) hr ?_
  intro w mg fa h Y G hmg0
  obtain ⟨K, KX, c⟩ := Y
  have hmg : mg ("law" : Str) = some (.ref fa) := by
    have e : (HandSHeadRun.topDef R.prog 64).name = ("law" : Str) := by kernel_rfl
    rw [← e]
    exact hmg0
  have M := mgok c KX G
  have D : DfIn K mg fns (top 64) f_law := Hd.dfIn (d := f_law) (st := top 64) c KX G (.tail _ (.tail _ (.tail _ (.tail _ (.tail _ (.tail _ (.tail _ (.tail _ (.tail _ (.tail _ (.tail _ (.tail _ (.tail _ (.tail _ (.tail _ (.tail _ (.tail _ (.tail _ (.tail _ (.tail _ (.tail _ (.tail _ (.tail _ (.tail _ (.tail _ (.tail _ (.tail _ (.tail _ (.tail _ (.tail _ (.tail _ (.tail _ (.tail _ (.tail _ (.tail _ (.tail _ (.tail _ (.tail _ (.tail _ (.tail _ (.tail _ (.tail _ (.head _))))))))))))))))))))))))))))))))))))))))))) bd_law rfl ck_law rfl
  obtain ⟨f, fd, F, hm, hb⟩ := Hd.funIn (x := "law") (st := top 64) c KX G (.tail _ (.tail _ (.tail _ (.tail _ (.tail _ (.tail _ (.tail _ (.tail _ (.tail _ (.tail _ (.tail _ (.tail _ (.tail _ (.tail _ (.tail _ (.tail _ (.tail _ (.tail _ (.tail _ (.tail _ (.tail _ (.tail _ (.tail _ (.tail _ (.tail _ (.tail _ (.tail _ (.tail _ (.tail _ (.tail _ (.tail _ (.tail _ (.tail _ (.tail _ (.tail _ (.tail _ (.tail _ (.tail _ (.tail _ (.tail _ (.tail _ (.tail _ (.head _))))))))))))))))))))))))))))))))))))))))))) bd_law
  have e := hmg.symm.trans hm
  cases e
  have hb' : ∀ (s : Shared) (u : Value), BindsTo s fd ⟨[u], []⟩ [("script", u)] := fun s u => by
    obtain ⟨oc, od, kV, doc, pm, an, cdv, ct, osl, rfl, lk, hcd⟩ := F.ex
    exact .of_eq (bd_law kV doc pm an cdv ct [u] rfl)
  refine ⟨K, fd, callN T hd.G (k + 1) "law", KX, hb', law, fun base hK hN => ?_⟩
  have hT := dfin base c KX G
  have hc : ∀ f ∈ fns, hd.G.m f = true ∨ CallB PySem.Challenge.pw_typedbydegrees_k11_whole_values_behind_c w K mg base (k + 1) f (callN T hd.G k f) := fun x hx => (fnsT x hx).imp id fun ⟨d, hd', e⟩ => by
    subst e
    exact calls_ok M hT fnsT k d hd'
  exact fn_one (base := base) M hc (d := f_law) (by kernel_rfl) rfl D.body D.ck F
end K11
section
open PySem PySem.W PySem.Calls PyProof.Rows EV
theorem K11.holds_of {k : Nat} (hr : L2.Room (k + 2) callerA) (law : ∀ ns : List Int, ns.length ≤ 63 → (∀ k ∈ ns, Builtin.Int.intBits k ≤ 1048576) → callN K11.T K11.hd.G (k + 1) "law" [.list (ns.map .int)] = some (.bool true)) : PySem.Challenge.rw_typedbydegrees_k11_whole_values_behind_c.Holds := by
  w_on; o_law
  refine HandSHeadRun.head_any (r := OpenLaw.row PySem.Challenge.rw_typedbydegrees_k11_whole_values_behind_c) (q := view (OpenLaw.row PySem.Challenge.rw_typedbydegrees_k11_whole_values_behind_c).prog [64]) (H := K11.hk) (ob := K11.ob) (M := 20000) (loose := K11.loose) (d := HandSHeadRun.topDef (OpenLaw.row PySem.Challenge.rw_typedbydegrees_k11_whole_values_behind_c).prog 64) (kwd := []) K11.ob_eq
    (by kernel_rfl) (fun s => by kernel_rfl) K11.run (by kernel_rfl) (by kernel_rfl) (by kernel_rfl) (by rfl) (by first | assumption | decide +kernel) (by decide +kernel) ⟨rfl, rfl, rfl, rfl, rfl, by decide +kernel⟩ ?hw ?hc
  case hw => w_witness2
  case hc => exact K11.of_ev hr law
end

namespace K11
open PySem L2 EV
theorem r_is_type (k : Nat) (v_told : D) : callN T hd.G (k + 1) "is_type" [v_told] =
    (((((isTy .tuple v_told).map PyData.bool).bind fun x25 => truD x25).map (!·)).bind fun k16 => cond k16 (some true) (((bD .len [v_told]).bind fun x24 => cmpD .Eq x24 (PyData.int 0)).bind fun k17 => cond k17 (some true) (((ixD v_told (PyData.int 0)).bind fun x23 => cmpD .NotIn x23 (dictD [("?", (PyData.int 0)), ("int", (PyData.int 0)), ("bool", (PyData.int 0)), ("unit", (PyData.int 0)), ("fun", (PyData.int 2)), ("pair", (PyData.int 2)), ("cell", (PyData.int 1)), ("list", (PyData.int 1))])).bind fun k18 => cond k18 (some true) ((bD .len [v_told]).bind fun x19 => (((ixD v_told (PyData.int 0)).bind fun x20 => ixD (dictD [("?", (PyData.int 0)), ("int", (PyData.int 0)), ("bool", (PyData.int 0)), ("unit", (PyData.int 0)), ("fun", (PyData.int 2)), ("pair", (PyData.int 2)), ("cell", (PyData.int 1)), ("list", (PyData.int 1))]) x20).bind fun x21 => binD .Add x21 (PyData.int 1)).bind fun x22 => cmpD .NotEq x19 x22)))).bind fun k3 => cond k3 (some (PyData.bool false)) ((((((slD v_told (some 1) none).bind fun x9 => items x9).bind fun xs10 => lim (compM (fun x11 => (callN T hd.G k "is_type" [x11]).bind fun x12 => some (some x12)) xs10)).bind fun x13 => some ([x13])).bind fun ds14 => bD .all ds14).bind fun x15 => some x15) := (callK (d := f_is_type) (by kernel_rfl) rfl rfl).trans (by kernel_rfl)
theorem r_size (k : Nat) (v_told : D) : callN T hd.G (k + 1) "size" [v_told] =
    ((((((slD v_told (some 1) none).bind fun x4 => items x4).bind fun xs5 => lim (compM (fun x6 => (callN T hd.G k "size" [x6]).bind fun x7 => some (some x7)) xs5)).bind fun x8 => some ([x8])).bind fun ds9 => bD .sum ds9).bind fun x10 => binD .Add (PyData.int 1) x10).bind fun x11 => some x11 := (callK (d := f_size) (by kernel_rfl) rfl rfl).trans (by kernel_rfl)
theorem r_check_type (k : Nat) (v_told : D) : callN T hd.G (k + 1) "check_type" [v_told] =
    ((((callN T hd.G k "is_type" [v_told]).bind fun x8 => truD x8).map (!·)).bind fun k6 => cond k6 (some true) ((callN T hd.G k "size" [v_told]).bind fun x7 => cmpD .Gt x7 (PyData.int 60))).bind fun k3 => cond k3 (none) (some PyData.none) := (callK (d := f_check_type) (by kernel_rfl) rfl rfl).trans (by kernel_rfl)
theorem r_is_label (k : Nat) (v_told : D) : callN T hd.G (k + 1) "is_label" [v_told] =
    (((isTy .tuple v_told).map PyData.bool).bind fun x4 => (truD x4).bind fun k3 => cond k3 (((bD .len [v_told]).bind fun x6 => (cmpD .Eq x6 (PyData.int 2)).map PyData.bool).bind fun x7 => (truD x7).bind fun k5 => cond k5 (((ixD v_told (PyData.int 1)).bind fun x9 => (isTy .bool x9).map PyData.bool).bind fun x10 => (truD x10).bind fun k8 => cond k8 (((ixD v_told (PyData.int 0)).bind fun x11 => some ([x11])).bind fun ds12 => callN T hd.G k "is_place" ds12) (some x10)) (some x7)) (some x4)).bind fun x13 => some x13 := (callK (d := f_is_label) (by kernel_rfl) rfl rfl).trans (by kernel_rfl)
theorem r_is_place (k : Nat) (v_told : D) : callN T hd.G (k + 1) "is_place" [v_told] =
    (((isTy .int v_told).map PyData.bool).bind fun x4 => (truD x4).bind fun k3 => cond k3 ((((isTy .bool v_told).map PyData.bool).bind fun x7 => (truD x7).map fun k6 => PyData.bool !k6).bind fun x8 => (truD x8).bind fun k5 => cond k5 ((cmpD .GtE v_told (PyData.int 0)).map PyData.bool) (some x8)) (some x4)).bind fun x9 => some x9 := (callK (d := f_is_place) (by kernel_rfl) rfl rfl).trans (by kernel_rfl)
theorem r_turned (k : Nat) (v_label : D) : callN T hd.G (k + 1) "turned" [v_label] =
    (((ixD v_label (PyData.int 0)).bind fun x6 => (((ixD v_label (PyData.int 1)).bind fun x4 => (truD x4).map fun k3 => PyData.bool !k3).bind fun x5 => some ([x5])).bind fun ys7 => some (x6 :: ys7)).bind fun ds8 => cond (decide (ds8.length ≤ few)) (some (PyData.tuple ds8)) none).bind fun x9 => some x9 := (callK (d := f_turned) (by kernel_rfl) rfl rfl).trans (by kernel_rfl)
theorem r_is_plain (k : Nat) (v_told : D) : callN T hd.G (k + 1) "is_plain" [v_told] =
    (((((isTy .tuple v_told).map PyData.bool).bind fun x38 => truD x38).map (!·)).bind fun k36 => cond k36 (some true) ((bD .len [v_told]).bind fun x37 => cmpD .Lt x37 (PyData.int 2))).bind fun k3 => cond k3 (some (PyData.bool false)) (((ixD v_told (PyData.int 0)).bind fun x35 => cmpD .Eq x35 (PyData.str "id")).bind fun k8 => cond k8 ((((bD .len [v_told]).bind fun x12 => (cmpD .Eq x12 (PyData.int 2)).map PyData.bool).bind fun x13 => (truD x13).bind fun k11 => cond k11 ((ixD v_told (PyData.int 1)).bind fun x14 => (cmpD .In x14 (PyData.tuple [(PyData.str "int"), (PyData.str "bool"), (PyData.str "unit")])).map PyData.bool) (some x13)).bind fun x15 => some x15) ((((ixD v_told (PyData.int 0)).bind fun x19 => (cmpD .In x19 (dictD [("fun", (PyData.int 2)), ("pair", (PyData.int 2)), ("cell", (PyData.int 2)), ("list", (PyData.int 1))])).map PyData.bool).bind fun x20 => (truD x20).bind fun k18 => cond k18 (((bD .len [v_told]).bind fun x22 => (((ixD v_told (PyData.int 0)).bind fun x23 => ixD (dictD [("fun", (PyData.int 2)), ("pair", (PyData.int 2)), ("cell", (PyData.int 2)), ("list", (PyData.int 1))]) x23).bind fun x24 => binD .Add x24 (PyData.int 1)).bind fun x25 => (cmpD .Eq x22 x25).map PyData.bool).bind fun x26 => (truD x26).bind fun k21 => cond k21 (((((slD v_told (some 1) none).bind fun x28 => items x28).bind fun xs29 => lim (compM (fun x30 => (callN T hd.G k "is_coercion" [x30]).bind fun x31 => some (some x31)) xs29)).bind fun x32 => some ([x32])).bind fun ds33 => bD .all ds33) (some x26)) (some x20)).bind fun x34 => some x34)) := (callK (d := f_is_plain) (by kernel_rfl) rfl rfl).trans (by kernel_rfl)
theorem r_source (k : Nat) (v_told : D) : callN T hd.G (k + 1) "source" [v_told] =
    (((ixD v_told (PyData.int 0)).bind fun x16 => cmpD .Eq x16 (PyData.str "id")).bind fun k14 => cond k14 (some true) ((ixD v_told (PyData.int 0)).bind fun x15 => cmpD .Eq x15 (PyData.str "fail"))).bind fun k3 => cond k3 ((ixD v_told (PyData.int 1)).bind fun x6 => some x6) ((((ixD v_told (PyData.int 0)).bind fun x10 => cmpD .Eq x10 (PyData.str "to")).bind fun k9 => cond k9 (((ixD v_told (PyData.int 1)).bind fun x11 => some ([x11])).bind fun ds12 => callN T hd.G k "source" ds12) (ixD v_told (PyData.int 0))).bind fun x13 => some x13) := (callK (d := f_source) (by kernel_rfl) rfl rfl).trans (by kernel_rfl)
theorem r_is_middle (k : Nat) (v_told : D) : callN T hd.G (k + 1) "is_middle" [v_told] =
    (((((isTy .tuple v_told).map PyData.bool).bind fun x51 => truD x51).map (!·)).bind fun k49 => cond k49 (some true) ((bD .len [v_told]).bind fun x50 => cmpD .Eq x50 (PyData.int 0))).bind fun k3 => cond k3 (some (PyData.bool false)) (((ixD v_told (PyData.int 0)).bind fun x48 => cmpD .Eq x48 (PyData.str "to")).bind fun k8 => cond k8 ((((bD .len [v_told]).bind fun x12 => (cmpD .Eq x12 (PyData.int 3)).map PyData.bool).bind fun x13 => (truD x13).bind fun k11 => cond k11 ((((ixD v_told (PyData.int 1)).bind fun x15 => some ([x15])).bind fun ds16 => callN T hd.G k "is_plain" ds16).bind fun x17 => (truD x17).bind fun k14 => cond k14 ((ixD v_told (PyData.int 2)).bind fun x18 => (((ixD v_told (PyData.int 1)).bind fun x19 => some ([x19])).bind fun ds20 => callN T hd.G k "source" ds20).bind fun x21 => (cmpD .Eq x18 x21).map PyData.bool) (some x17)) (some x13)).bind fun x22 => some x22) (((ixD v_told (PyData.int 0)).bind fun x47 => cmpD .Eq x47 (PyData.str "fail")).bind fun k25 => cond k25 ((((bD .len [v_told]).bind fun x29 => (cmpD .Eq x29 (PyData.int 4)).map PyData.bool).bind fun x30 => (truD x30).bind fun k28 => cond k28 (((ixD v_told (PyData.int 1)).bind fun x32 => (cmpD .In x32 (PyData.tuple [(PyData.str "int"), (PyData.str "bool"), (PyData.str "unit"), (PyData.str "fun"), (PyData.str "pair"), (PyData.str "cell"), (PyData.str "list")])).map PyData.bool).bind fun x33 => (truD x33).bind fun k31 => cond k31 (((ixD v_told (PyData.int 3)).bind fun x35 => (cmpD .In x35 (PyData.tuple [(PyData.str "int"), (PyData.str "bool"), (PyData.str "unit"), (PyData.str "fun"), (PyData.str "pair"), (PyData.str "cell"), (PyData.str "list")])).map PyData.bool).bind fun x36 => (truD x36).bind fun k34 => cond k34 (((ixD v_told (PyData.int 1)).bind fun x38 => (ixD v_told (PyData.int 3)).bind fun x39 => (cmpD .NotEq x38 x39).map PyData.bool).bind fun x40 => (truD x40).bind fun k37 => cond k37 (((ixD v_told (PyData.int 2)).bind fun x41 => some ([x41])).bind fun ds42 => callN T hd.G k "is_label" ds42) (some x40)) (some x36)) (some x33)) (some x30)).bind fun x43 => some x43) ((callN T hd.G k "is_plain" [v_told]).bind fun x46 => some x46))) := (callK (d := f_is_middle) (by kernel_rfl) rfl rfl).trans (by kernel_rfl)
theorem r_is_coercion (k : Nat) (v_told : D) : callN T hd.G (k + 1) "is_coercion" [v_told] =
    (cmpD .Eq v_told (PyData.tuple [(PyData.str "id?")])).bind fun k3 => cond k3 (some (PyData.bool true)) (((((isTy .tuple v_told).map PyData.bool).bind fun x34 => truD x34).bind fun k30 => cond k30 (((bD .len [v_told]).bind fun x33 => cmpD .Eq x33 (PyData.int 4)).bind fun k31 => cond k31 ((ixD v_told (PyData.int 0)).bind fun x32 => cmpD .Eq x32 (PyData.str "from")) (some false)) (some false)).bind fun k8 => cond k8 ((((ixD v_told (PyData.int 1)).bind fun x12 => (cmpD .In x12 (PyData.tuple [(PyData.str "int"), (PyData.str "bool"), (PyData.str "unit"), (PyData.str "fun"), (PyData.str "pair"), (PyData.str "cell"), (PyData.str "list")])).map PyData.bool).bind fun x13 => (truD x13).bind fun k11 => cond k11 ((((ixD v_told (PyData.int 2)).bind fun x15 => some ([x15])).bind fun ds16 => callN T hd.G k "is_label" ds16).bind fun x17 => (truD x17).bind fun k14 => cond k14 ((((ixD v_told (PyData.int 3)).bind fun x19 => some ([x19])).bind fun ds20 => callN T hd.G k "is_middle" ds20).bind fun x21 => (truD x21).bind fun k18 => cond k18 ((((ixD v_told (PyData.int 3)).bind fun x22 => some ([x22])).bind fun ds23 => callN T hd.G k "source" ds23).bind fun x24 => (ixD v_told (PyData.int 1)).bind fun x25 => (cmpD .Eq x24 x25).map PyData.bool) (some x21)) (some x17)) (some x13)).bind fun x26 => some x26) ((callN T hd.G k "is_middle" [v_told]).bind fun x29 => some x29)) := (callK (d := f_is_coercion) (by kernel_rfl) rfl rfl).trans (by kernel_rfl)
theorem r_check_coercion (k : Nat) (v_told : D) : callN T hd.G (k + 1) "check_coercion" [v_told] =
    (((callN T hd.G k "is_coercion" [v_told]).bind fun x6 => truD x6).map (!·)).bind fun k3 => cond k3 (none) (some PyData.none) := (callK (d := f_check_coercion) (by kernel_rfl) rfl rfl).trans (by kernel_rfl)
theorem r_identity_of (k : Nat) (v_kind : D) : callN T hd.G (k + 1) "identity_of" [v_kind] =
    (cmpD .Eq v_kind (PyData.tuple [(PyData.str "?")])).bind fun k3 => cond k3 (some (PyData.tuple [(PyData.str "id?")])) (((ixD v_kind (PyData.int 0)).bind fun x36 => cmpD .In x36 (PyData.tuple [(PyData.str "int"), (PyData.str "bool"), (PyData.str "unit")])).bind fun k8 => cond k8 (((((ixD v_kind (PyData.int 0)).bind fun x11 => some ([x11])).bind fun ys12 => some ((PyData.str "id") :: ys12)).bind fun ds13 => cond (decide (ds13.length ≤ few)) (some (PyData.tuple ds13)) none).bind fun x14 => some x14) (((slD v_kind (some 1) none).bind fun x17 => items x17).bind fun xs18 => (compM (fun x20 => (callN T hd.G k "identity_of" [x20]).bind fun x21 => some (some x21)) xs18).bind fun ys19 => cond (decide (ys19.length ≤ few)) ((((ixD v_kind (PyData.int 0)).bind fun x25 => cmpD .Eq x25 (PyData.str "cell")).bind fun k24 => cond k24 ((((ixD (PyData.list ys19) (PyData.int 0)).bind fun x27 => ((ixD (PyData.list ys19) (PyData.int 0)).bind fun x26 => some ([x26])).bind fun ys28 => some (x27 :: ys28)).bind fun ys29 => some ((PyData.str "cell") :: ys29)).bind fun ds30 => cond (decide (ds30.length ≤ few)) (some (PyData.tuple ds30)) none) (((ixD v_kind (PyData.int 0)).bind fun x32 => ((items (PyData.list ys19)).bind fun x31 => some (x31 ++ [])).bind fun ys33 => some (x32 :: ys33)).bind fun ds34 => cond (decide (ds34.length ≤ few)) (some (PyData.tuple ds34)) none)).bind fun x35 => some x35) none)) := (callK (d := f_identity_of) (by kernel_rfl) rfl rfl).trans (by kernel_rfl)
theorem r_identity (k : Nat) (v_kind : D) : callN T hd.G (k + 1) "identity" [v_kind] =
    (callN T hd.G k "check_type" [v_kind]).bind fun x3 => (callN T hd.G k "identity_of" [v_kind]).bind fun x6 => some x6 := (callK (d := f_identity) (by kernel_rfl) rfl rfl).trans (by kernel_rfl)
theorem r_made (k : Nat) (v_one v_two v_label : D) : callN T hd.G (k + 1) "made" [v_one, v_two, v_label] =
    ((cmpD .Eq v_one (PyData.tuple [(PyData.str "?")])).bind fun k44 => cond k44 (cmpD .Eq v_two (PyData.tuple [(PyData.str "?")])) (some false)).bind fun k3 => cond k3 (some (PyData.tuple [(PyData.str "id?")])) ((cmpD .Eq v_two (PyData.tuple [(PyData.str "?")])).bind fun k8 => cond k8 ((((((((callN T hd.G k "wide" [v_one]).bind fun x11 => some ([x11, v_label])).bind fun ys12 => some (v_one :: ys12)).bind fun ds13 => callN T hd.G k "structural" ds13).bind fun x15 => ((ixD v_one (PyData.int 0)).bind fun x14 => some ([x14])).bind fun ys16 => some (x15 :: ys16)).bind fun ys17 => some ((PyData.str "to") :: ys17)).bind fun ds18 => cond (decide (ds18.length ≤ few)) (some (PyData.tuple ds18)) none).bind fun x19 => some x19) ((cmpD .Eq v_one (PyData.tuple [(PyData.str "?")])).bind fun k22 => cond k22 (((((ixD v_two (PyData.int 0)).bind fun x29 => (((((callN T hd.G k "wide" [v_two]).bind fun x25 => some ([x25, v_two, v_label])).bind fun ds26 => callN T hd.G k "structural" ds26).bind fun x27 => some ([x27])).bind fun ys28 => some (v_label :: ys28)).bind fun ys30 => some (x29 :: ys30)).bind fun ys31 => some ((PyData.str "from") :: ys31)).bind fun ds32 => cond (decide (ds32.length ≤ few)) (some (PyData.tuple ds32)) none).bind fun x33 => some x33) (((ixD v_one (PyData.int 0)).bind fun x42 => (ixD v_two (PyData.int 0)).bind fun x43 => cmpD .NotEq x42 x43).bind fun k36 => cond k36 (none) ((callN T hd.G k "structural" [v_one, v_two, v_label]).bind fun x41 => some x41)))) := (callK (d := f_made) (by kernel_rfl) rfl rfl).trans (by kernel_rfl)
theorem r_wide (k : Nat) (v_kind : D) : callN T hd.G (k + 1) "wide" [v_kind] =
    (((ixD v_kind (PyData.int 0)).bind fun x9 => ((((slD v_kind (some 1) none).bind fun x4 => items x4).bind fun xs5 => lim (compM (fun x6 => some (some (PyData.tuple [(PyData.str "?")]))) xs5)).bind fun x7 => (items x7).bind fun x8 => some (x8 ++ [])).bind fun ys10 => some (x9 :: ys10)).bind fun ds11 => cond (decide (ds11.length ≤ few)) (some (PyData.tuple ds11)) none).bind fun x12 => some x12 := (callK (d := f_wide) (by kernel_rfl) rfl rfl).trans (by kernel_rfl)
theorem r_structural (k : Nat) (v_one v_two v_label : D) : callN T hd.G (k + 1) "structural" [v_one, v_two, v_label] =
    (ixD v_one (PyData.int 0)).bind fun x3 => (cmpD .In x3 (PyData.tuple [(PyData.str "int"), (PyData.str "bool"), (PyData.str "unit")])).bind fun k6 => cond k6 (some (PyData.tuple [(PyData.str "id"), x3])) ((cmpD .Eq x3 (PyData.str "cell")).bind fun k11 => cond k11 (((((((ixD v_one (PyData.int 1)).bind fun x15 => ((ixD v_two (PyData.int 1)).bind fun x14 => some ([x14, v_label])).bind fun ys16 => some (x15 :: ys16)).bind fun ds17 => callN T hd.G k "made" ds17).bind fun x25 => ((((ixD v_two (PyData.int 1)).bind fun x21 => ((ixD v_one (PyData.int 1)).bind fun x19 => ((callN T hd.G k "turned" [v_label]).bind fun x18 => some ([x18])).bind fun ys20 => some (x19 :: ys20)).bind fun ys22 => some (x21 :: ys22)).bind fun ds23 => callN T hd.G k "made" ds23).bind fun x24 => some ([x24])).bind fun ys26 => some (x25 :: ys26)).bind fun ys27 => some (x3 :: ys27)).bind fun ds28 => cond (decide (ds28.length ≤ few)) (some (PyData.tuple ds28)) none).bind fun x29 => some x29) ((cmpD .Eq x3 (PyData.str "fun")).bind fun k32 => cond k32 (((((((ixD v_two (PyData.int 1)).bind fun x38 => ((ixD v_one (PyData.int 1)).bind fun x36 => ((callN T hd.G k "turned" [v_label]).bind fun x35 => some ([x35])).bind fun ys37 => some (x36 :: ys37)).bind fun ys39 => some (x38 :: ys39)).bind fun ds40 => callN T hd.G k "made" ds40).bind fun x46 => ((((ixD v_one (PyData.int 2)).bind fun x42 => ((ixD v_two (PyData.int 2)).bind fun x41 => some ([x41, v_label])).bind fun ys43 => some (x42 :: ys43)).bind fun ds44 => callN T hd.G k "made" ds44).bind fun x45 => some ([x45])).bind fun ys47 => some (x46 :: ys47)).bind fun ys48 => some (x3 :: ys48)).bind fun ds49 => cond (decide (ds49.length ≤ few)) (some (PyData.tuple ds49)) none).bind fun x50 => some x50) (((((((slD v_one (some 1) none).bind fun x54 => (slD v_two (some 1) none).bind fun x55 => zipD x54 x55).bind fun xs56 => lim (compM (fun x57 => (asg f_structural.N [Sl.sh v_one, Sl.sh v_two, Sl.sh v_label, Sl.sh x3, Sl.un, Sl.un, Sl.un] (nmT ["a", "b"]) x57).bind fun σ58 => ((((σ58[5]?).bind (rd false)).bind fun x62 => (((σ58[6]?).bind (rd false)).bind fun x60 => (((σ58[2]?).bind (rd false)).bind fun x59 => some ([x59])).bind fun ys61 => some (x60 :: ys61)).bind fun ys63 => some (x62 :: ys63)).bind fun ds64 => callN T hd.G k "made" ds64).bind fun x65 => some (some x65)) xs56)).bind fun x66 => (items x66).bind fun x67 => some (x67 ++ [])).bind fun ys68 => some (x3 :: ys68)).bind fun ds69 => cond (decide (ds69.length ≤ few)) (some (PyData.tuple ds69)) none).bind fun x70 => some x70))) := (callK (d := f_structural) (by kernel_rfl) rfl rfl).trans (by kernel_rfl)
theorem r_make (k : Nat) (v_one v_two v_label : D) : callN T hd.G (k + 1) "make" [v_one, v_two, v_label] =
    (callN T hd.G k "check_type" [v_one]).bind fun x3 => (callN T hd.G k "check_type" [v_two]).bind fun x6 => (((callN T hd.G k "is_label" [v_label]).bind fun x15 => truD x15).map (!·)).bind fun k9 => cond k9 (none) ((callN T hd.G k "made" [v_one, v_two, v_label]).bind fun x14 => some x14) := (callK (d := f_make) (by kernel_rfl) rfl rfl).trans (by kernel_rfl)
theorem r_composed (k : Nat) (v_one v_two : D) : callN T hd.G (k + 1) "composed" [v_one, v_two] =
    ((cmpD .Eq v_one (PyData.tuple [(PyData.str "id?")])).bind fun k51 => cond k51 (some true) ((ixD v_one (PyData.int 0)).bind fun x52 => cmpD .Eq x52 (PyData.str "fail"))).bind fun k3 => cond k3 (((cmpD .Eq v_one (PyData.tuple [(PyData.str "id?")])).bind fun k6 => cond k6 (some (v_two)) (some (v_one))).bind fun x7 => some x7) (((ixD v_one (PyData.int 0)).bind fun x50 => cmpD .Eq x50 (PyData.str "from")).bind fun k10 => cond k10 (((((ixD v_one (PyData.int 1)).bind fun x18 => ((ixD v_one (PyData.int 2)).bind fun x16 => ((((ixD v_one (PyData.int 3)).bind fun x13 => some ([x13, v_two])).bind fun ds14 => callN T hd.G k "composed" ds14).bind fun x15 => some ([x15])).bind fun ys17 => some (x16 :: ys17)).bind fun ys19 => some (x18 :: ys19)).bind fun ys20 => some ((PyData.str "from") :: ys20)).bind fun ds21 => cond (decide (ds21.length ≤ few)) (some (PyData.tuple ds21)) none).bind fun x22 => some x22) (((ixD v_one (PyData.int 0)).bind fun x49 => cmpD .Eq x49 (PyData.str "to")).bind fun k25 => cond k25 ((callN T hd.G k "behind_tag" [v_one, v_two]).bind fun x28 => some x28) (((ixD v_two (PyData.int 0)).bind fun x48 => cmpD .Eq x48 (PyData.str "to")).bind fun k31 => cond k31 ((((((((ixD v_two (PyData.int 1)).bind fun x34 => some ([x34])).bind fun ys35 => some (v_one :: ys35)).bind fun ds36 => callN T hd.G k "composed" ds36).bind fun x38 => ((ixD v_two (PyData.int 2)).bind fun x37 => some ([x37])).bind fun ys39 => some (x38 :: ys39)).bind fun ys40 => some ((PyData.str "to") :: ys40)).bind fun ds41 => cond (decide (ds41.length ≤ few)) (some (PyData.tuple ds41)) none).bind fun x42 => some x42) ((((ixD v_two (PyData.int 0)).bind fun x46 => cmpD .Eq x46 (PyData.str "fail")).bind fun k45 => cond k45 (some (v_two)) (callN T hd.G k "both" [v_one, v_two])).bind fun x47 => some x47)))) := (callK (d := f_composed) (by kernel_rfl) rfl rfl).trans (by kernel_rfl)
theorem r_behind_tag (k : Nat) (v_one v_two : D) : callN T hd.G (k + 1) "behind_tag" [v_one, v_two] =
    (cmpD .Eq v_two (PyData.tuple [(PyData.str "id?")])).bind fun k3 => cond k3 (some v_one) (((ixD v_one (PyData.int 2)).bind fun x26 => (ixD v_two (PyData.int 1)).bind fun x27 => cmpD .Eq x26 x27).bind fun k8 => cond k8 ((((ixD v_one (PyData.int 1)).bind fun x12 => ((ixD v_two (PyData.int 3)).bind fun x11 => some ([x11])).bind fun ys13 => some (x12 :: ys13)).bind fun ds14 => callN T hd.G k "composed" ds14).bind fun x15 => some x15) (((((ixD v_one (PyData.int 2)).bind fun x21 => ((ixD v_two (PyData.int 2)).bind fun x19 => ((ixD v_two (PyData.int 1)).bind fun x18 => some ([x18])).bind fun ys20 => some (x19 :: ys20)).bind fun ys22 => some (x21 :: ys22)).bind fun ys23 => some ((PyData.str "fail") :: ys23)).bind fun ds24 => cond (decide (ds24.length ≤ few)) (some (PyData.tuple ds24)) none).bind fun x25 => some x25)) := (callK (d := f_behind_tag) (by kernel_rfl) rfl rfl).trans (by kernel_rfl)
theorem r_both (k : Nat) (v_one v_two : D) : callN T hd.G (k + 1) "both" [v_one, v_two] =
    ((ixD v_one (PyData.int 0)).bind fun x16 => cmpD .Eq x16 (PyData.str "id")).bind fun k3 => cond k3 (some v_one) (((ixD v_one (PyData.int 0)).bind fun x8 => getD2 (dictD [("fun", (PyData.int 1)), ("cell", (PyData.int 2))]) x8 (PyData.int 0)).bind fun x9 => (((bD .len [v_one]).bind fun x14 => rng2 (PyData.int 1) x14).bind fun xs15 => forL (fun σ x => asg f_both.N σ (forT (stAt f_both.body 3)) x) (fun σ => exs ⟨f_both.N, hd.G, callN T hd.G k⟩ 55 σ (forB (stAt f_both.body 3))) xs15 [Sl.sh v_one, Sl.sh v_two, Sl.sh x9, Sl.ow [], Sl.un]).bind (fun fl13 => match fl13 with | .next σ12 => exsK ⟨f_both.N, hd.G, callN T hd.G k⟩ 56 σ12 (f_both.body.drop 4) endK | fl13 => endK fl13)) := (callK (d := f_both) (by kernel_rfl) rfl rfl).trans (by kernel_rfl)
theorem r_both_3g (z_0 z_1 z_2 z_3 z_4 : Sl) (v_x : D) : asg f_both.N [z_0, z_1, z_2, z_3, z_4] (forT (stAt f_both.body 3)) v_x =
    some [z_0, z_1, z_2, z_3, Sl.sh v_x] := by kernel_rfl
theorem r_both_3b (k : Nat) (w_0 : D) (w_1 : D) (w_2 : D) (l_3 : List D) (v_x : D) : exs ⟨f_both.N, hd.G, callN T hd.G k⟩ 55 [Sl.sh w_0, Sl.sh w_1, Sl.sh w_2, Sl.ow l_3, Sl.sh v_x] (forB (stAt f_both.body 3)) =
    ((cmpD .Eq v_x w_2).bind fun k19 => cond k19 (((ixD w_1 v_x).bind fun x21 => ((ixD w_0 v_x).bind fun x20 => some ([x20])).bind fun ys22 => some (x21 :: ys22)).bind fun ds23 => callN T hd.G k "composed" ds23) (((ixD w_0 v_x).bind fun x25 => ((ixD w_1 v_x).bind fun x24 => some ([x24])).bind fun ys26 => some (x25 :: ys26)).bind fun ds27 => callN T hd.G k "composed" ds27)).bind fun x28 => cond (decide ((l_3).length < few)) (some (Fl.next [Sl.sh w_0, Sl.sh w_1, Sl.sh w_2, Sl.ow (l_3 ++ [x28]), Sl.sh v_x])) none := bodyK.trans (by kernel_rfl)
theorem r_both_3a (k : Nat) (w_0 : D) (w_1 : D) (w_2 : D) (l_3 : List D) (s_4 : Sl) : exsK ⟨f_both.N, hd.G, callN T hd.G k⟩ 56 [Sl.sh w_0, Sl.sh w_1, Sl.sh w_2, Sl.ow l_3, s_4] (f_both.body.drop 4) endK =
    (((ixD w_0 (PyData.int 0)).bind fun x32 => ((items (PyData.list l_3)).bind fun x31 => some (x31 ++ [])).bind fun ys33 => some (x32 :: ys33)).bind fun ds34 => cond (decide (ds34.length ≤ few)) (some (PyData.tuple ds34)) none).bind fun x35 => some x35 := by kernel_rfl
theorem r_do_join (k : Nat) (v_one v_two : D) : callN T hd.G (k + 1) "do_join" [v_one, v_two] =
    ((ixD v_one (PyData.int 0)).bind fun x88 => cmpD .Eq x88 (PyData.str "fail")).bind fun k3 => cond k3 (some (PyData.bool true)) (((ixD v_one (PyData.int 0)).bind fun x87 => cmpD .Eq x87 (PyData.str "from")).bind fun k8 => cond k8 ((((ixD v_one (PyData.int 3)).bind fun x11 => some ([x11, v_two])).bind fun ds12 => callN T hd.G k "do_join" ds12).bind fun x13 => some x13) (((cmpD .Eq v_one (PyData.tuple [(PyData.str "id?")])).bind fun k85 => cond k85 (some true) ((ixD v_one (PyData.int 0)).bind fun x86 => cmpD .Eq x86 (PyData.str "to"))).bind fun k16 => cond k16 ((((cmpD .Eq v_two (PyData.tuple [(PyData.str "id?")])).map PyData.bool).bind fun x20 => (truD x20).bind fun k19 => cond k19 (some x20) ((ixD v_two (PyData.int 0)).bind fun x21 => (cmpD .Eq x21 (PyData.str "from")).map PyData.bool)).bind fun x22 => some x22) (((cmpD .Eq v_two (PyData.tuple [(PyData.str "id?")])).bind fun k80 => cond k80 (some true) (((ixD v_two (PyData.int 0)).bind fun x84 => cmpD .Eq x84 (PyData.str "from")).bind fun k81 => cond k81 (some true) ((callN T hd.G k "source" [v_one]).bind fun x82 => (callN T hd.G k "source" [v_two]).bind fun x83 => cmpD .NotEq x82 x83))).bind fun k25 => cond k25 (some (PyData.bool false)) ((((ixD v_one (PyData.int 0)).bind fun x79 => cmpD .Eq x79 (PyData.str "id")).bind fun k77 => cond k77 (some true) ((ixD v_two (PyData.int 0)).bind fun x78 => cmpD .Eq x78 (PyData.str "fail"))).bind fun k30 => cond k30 (some (PyData.bool true)) (((ixD v_two (PyData.int 0)).bind fun x76 => cmpD .Eq x76 (PyData.str "to")).bind fun k35 => cond k35 (((((ixD v_two (PyData.int 1)).bind fun x38 => some ([x38])).bind fun ys39 => some (v_one :: ys39)).bind fun ds40 => callN T hd.G k "do_join" ds40).bind fun x41 => some x41) (((ixD v_one (PyData.int 0)).bind fun x44 => getD2 (dictD [("fun", (PyData.int 1)), ("cell", (PyData.int 2))]) x44 (PyData.int 0)).bind fun x45 => ((bD .len [v_one]).bind fun x48 => rng2 (PyData.int 1) x48).bind fun xs49 => (compM (fun x51 => ((cmpD .Eq x51 x45).bind fun k52 => cond k52 (((ixD v_two x51).bind fun x54 => ((ixD v_one x51).bind fun x53 => some ([x53])).bind fun ys55 => some (x54 :: ys55)).bind fun ds56 => cond (decide (ds56.length ≤ few)) (some (PyData.tuple ds56)) none) (((ixD v_one x51).bind fun x58 => ((ixD v_two x51).bind fun x57 => some ([x57])).bind fun ys59 => some (x58 :: ys59)).bind fun ds60 => cond (decide (ds60.length ≤ few)) (some (PyData.tuple ds60)) none)).bind fun x61 => some (some x61)) xs49).bind fun ys50 => cond (decide (ys50.length ≤ few)) (((((items (PyData.list ys50)).bind fun xs65 => lim (compM (fun x66 => (asg f_do_join.N [Sl.sh v_one, Sl.sh v_two, Sl.sh x45, Sl.sh (PyData.list ys50), Sl.un, Sl.un, Sl.un, Sl.un] (nmT ["first", "second"]) x66).bind fun σ67 => ((((σ67[6]?).bind (rd false)).bind fun x69 => (((σ67[7]?).bind (rd false)).bind fun x68 => some ([x68])).bind fun ys70 => some (x69 :: ys70)).bind fun ds71 => callN T hd.G k "do_join" ds71).bind fun x72 => some (some x72)) xs65)).bind fun x73 => some ([x73])).bind fun ds74 => bD .all ds74).bind fun x75 => some x75) none)))))) := (callK (d := f_do_join) (by kernel_rfl) rfl rfl).trans (by kernel_rfl)
theorem r_compose (k : Nat) (v_one v_two : D) : callN T hd.G (k + 1) "compose" [v_one, v_two] =
    (callN T hd.G k "check_coercion" [v_one]).bind fun x3 => (callN T hd.G k "check_coercion" [v_two]).bind fun x6 => (((callN T hd.G k "do_join" [v_one, v_two]).bind fun x15 => truD x15).map (!·)).bind fun k9 => cond k9 (none) ((callN T hd.G k "composed" [v_one, v_two]).bind fun x14 => some x14) := (callK (d := f_compose) (by kernel_rfl) rfl rfl).trans (by kernel_rfl)
theorem r_is_value (k : Nat) (v_told : D) : callN T hd.G (k + 1) "is_value" [v_told] =
    (((((isTy .tuple v_told).map PyData.bool).bind fun x82 => truD x82).map (!·)).bind fun k80 => cond k80 (some true) ((bD .len [v_told]).bind fun x81 => cmpD .Eq x81 (PyData.int 0))).bind fun k3 => cond k3 (some (PyData.bool false)) (((ixD v_told (PyData.int 0)).bind fun x79 => cmpD .In x79 (PyData.tuple [(PyData.str "int"), (PyData.str "bool")])).bind fun k8 => cond k8 ((((bD .len [v_told]).bind fun x12 => (cmpD .Eq x12 (PyData.int 2)).map PyData.bool).bind fun x13 => (truD x13).bind fun k11 => cond k11 (((ixD v_told (PyData.int 1)).bind fun x15 => (isTy .int x15).map PyData.bool).bind fun x16 => (truD x16).bind fun k14 => cond k14 (((ixD v_told (PyData.int 1)).bind fun x17 => (isTy .bool x17).map PyData.bool).bind fun x18 => ((ixD v_told (PyData.int 0)).bind fun x19 => (cmpD .Eq x19 (PyData.str "bool")).map PyData.bool).bind fun x20 => (cmpD .Eq x18 x20).map PyData.bool) (some x16)) (some x13)).bind fun x21 => some x21) (((ixD v_told (PyData.int 0)).bind fun x78 => cmpD .Eq x78 (PyData.str "unit")).bind fun k24 => cond k24 (((bD .len [v_told]).bind fun x27 => (cmpD .Eq x27 (PyData.int 1)).map PyData.bool).bind fun x28 => some x28) (((ixD v_told (PyData.int 0)).bind fun x77 => cmpD .Eq x77 (PyData.str "tag")).bind fun k31 => cond k31 ((((bD .len [v_told]).bind fun x35 => (cmpD .Eq x35 (PyData.int 3)).map PyData.bool).bind fun x36 => (truD x36).bind fun k34 => cond k34 (((ixD v_told (PyData.int 1)).bind fun x38 => (cmpD .In x38 (PyData.tuple [(PyData.str "int"), (PyData.str "bool"), (PyData.str "unit"), (PyData.str "fun"), (PyData.str "pair"), (PyData.str "cell"), (PyData.str "list")])).map PyData.bool).bind fun x39 => (truD x39).bind fun k37 => cond k37 ((((ixD v_told (PyData.int 2)).bind fun x41 => some ([x41])).bind fun ds42 => callN T hd.G k "is_value" ds42).bind fun x43 => (truD x43).bind fun k40 => cond k40 (((ixD v_told (PyData.int 2)).bind fun x44 => ixD x44 (PyData.int 0)).bind fun x45 => (ixD v_told (PyData.int 1)).bind fun x46 => (cmpD .Eq x45 x46).map PyData.bool) (some x43)) (some x39)) (some x36)).bind fun x47 => some x47) (((ixD v_told (PyData.int 0)).bind fun x76 => cmpD .Eq x76 (PyData.str "blame")).bind fun k50 => cond k50 (((bD .len [v_told]).bind fun x53 => (cmpD .Eq x53 (PyData.int 2)).map PyData.bool).bind fun x54 => some x54) (((((ixD v_told (PyData.int 0)).bind fun x59 => (cmpD .Eq x59 (PyData.str "pair")).map PyData.bool).bind fun x60 => (truD x60).bind fun k58 => cond k58 ((bD .len [v_told]).bind fun x61 => (cmpD .Eq x61 (PyData.int 3)).map PyData.bool) (some x60)).bind fun x62 => (truD x62).bind fun k57 => cond k57 (some x62) ((ixD v_told (PyData.int 0)).bind fun x63 => (cmpD .Eq x63 (PyData.str "list")).map PyData.bool)).bind fun x64 => ((truD x64).bind fun k67 => cond k67 (((((slD v_told (some 1) none).bind fun x69 => items x69).bind fun xs70 => lim (compM (fun x71 => (callN T hd.G k "is_value" [x71]).bind fun x72 => some (some x72)) xs70)).bind fun x73 => some ([x73])).bind fun ds74 => bD .all ds74) (some x64)).bind fun x75 => some x75))))) := (callK (d := f_is_value) (by kernel_rfl) rfl rfl).trans (by kernel_rfl)
theorem r_seen (k : Nat) (v_coercion v_value : D) : callN T hd.G (k + 1) "seen" [v_coercion, v_value] =
    (((ixD v_value (PyData.int 0)).bind fun x87 => cmpD .Eq x87 (PyData.str "blame")).bind fun k84 => cond k84 (some true) ((cmpD .Eq v_coercion (PyData.tuple [(PyData.str "id?")])).bind fun k85 => cond k85 (some true) ((ixD v_coercion (PyData.int 0)).bind fun x86 => cmpD .Eq x86 (PyData.str "id")))).bind fun k3 => cond k3 (some v_value) (((ixD v_coercion (PyData.int 0)).bind fun x83 => cmpD .Eq x83 (PyData.str "fail")).bind fun k8 => cond k8 (((((ixD v_coercion (PyData.int 2)).bind fun x11 => some ([x11])).bind fun ys12 => some ((PyData.str "blame") :: ys12)).bind fun ds13 => cond (decide (ds13.length ≤ few)) (some (PyData.tuple ds13)) none).bind fun x14 => some x14) (((ixD v_coercion (PyData.int 0)).bind fun x82 => cmpD .Eq x82 (PyData.str "to")).bind fun k17 => cond k17 ((((ixD v_coercion (PyData.int 1)).bind fun x20 => some ([x20, v_value])).bind fun ds21 => callN T hd.G k "seen" ds21).bind fun x22 => (((ixD x22 (PyData.int 0)).bind fun x26 => cmpD .Eq x26 (PyData.str "blame")).bind fun k25 => cond k25 (some (x22)) ((((ixD v_coercion (PyData.int 2)).bind fun x27 => some ([x27, x22])).bind fun ys28 => some ((PyData.str "tag") :: ys28)).bind fun ds29 => cond (decide (ds29.length ≤ few)) (some (PyData.tuple ds29)) none)).bind fun x30 => some x30) (((ixD v_coercion (PyData.int 0)).bind fun x81 => cmpD .Eq x81 (PyData.str "from")).bind fun k33 => cond k33 ((((ixD v_value (PyData.int 1)).bind fun x37 => (ixD v_coercion (PyData.int 1)).bind fun x38 => cmpD .Eq x37 x38).bind fun k36 => cond k36 (((ixD v_coercion (PyData.int 3)).bind fun x40 => ((ixD v_value (PyData.int 2)).bind fun x39 => some ([x39])).bind fun ys41 => some (x40 :: ys41)).bind fun ds42 => callN T hd.G k "seen" ds42) ((((ixD v_coercion (PyData.int 2)).bind fun x43 => some ([x43])).bind fun ys44 => some ((PyData.str "blame") :: ys44)).bind fun ds45 => cond (decide (ds45.length ≤ few)) (some (PyData.tuple ds45)) none)).bind fun x46 => some x46) (((ixD v_coercion (PyData.int 0)).bind fun x80 => cmpD .Eq x80 (PyData.str "list")).bind fun k49 => cond k49 (((((((slD v_value (some 1) none).bind fun x53 => items x53).bind fun xs54 => lim (compM (fun x55 => (((ixD v_coercion (PyData.int 1)).bind fun x56 => some ([x56, x55])).bind fun ds57 => callN T hd.G k "seen" ds57).bind fun x58 => some (some x58)) xs54)).bind fun x59 => (items x59).bind fun x60 => some (x60 ++ [])).bind fun ys61 => some ((PyData.str "list") :: ys61)).bind fun ds62 => cond (decide (ds62.length ≤ few)) (some (PyData.tuple ds62)) none).bind fun x63 => some x63) (((((((ixD v_coercion (PyData.int 1)).bind fun x67 => ((ixD v_value (PyData.int 1)).bind fun x66 => some ([x66])).bind fun ys68 => some (x67 :: ys68)).bind fun ds69 => callN T hd.G k "seen" ds69).bind fun x75 => ((((ixD v_coercion (PyData.int 2)).bind fun x71 => ((ixD v_value (PyData.int 2)).bind fun x70 => some ([x70])).bind fun ys72 => some (x71 :: ys72)).bind fun ds73 => callN T hd.G k "seen" ds73).bind fun x74 => some ([x74])).bind fun ys76 => some (x75 :: ys76)).bind fun ys77 => some ((PyData.str "pair") :: ys77)).bind fun ds78 => cond (decide (ds78.length ≤ few)) (some (PyData.tuple ds78)) none).bind fun x79 => some x79))))) := (callK (d := f_seen) (by kernel_rfl) rfl rfl).trans (by kernel_rfl)
theorem r_does_take (k : Nat) (v_coercion v_value : D) : callN T hd.G (k + 1) "does_take" [v_coercion, v_value] =
    (((ixD v_value (PyData.int 0)).bind fun x83 => cmpD .Eq x83 (PyData.str "blame")).bind fun k82 => cond k82 (some true) (cmpD .Eq v_coercion (PyData.tuple [(PyData.str "id?")]))).bind fun k3 => cond k3 (((ixD v_value (PyData.int 0)).bind fun x6 => (cmpD .In x6 (PyData.tuple [(PyData.str "blame"), (PyData.str "tag")])).map PyData.bool).bind fun x7 => some x7) (((ixD v_coercion (PyData.int 0)).bind fun x81 => cmpD .Eq x81 (PyData.str "from")).bind fun k10 => cond k10 ((((ixD v_value (PyData.int 0)).bind fun x14 => (cmpD .Eq x14 (PyData.str "tag")).map PyData.bool).bind fun x15 => (truD x15).bind fun k13 => cond k13 (((ixD v_value (PyData.int 1)).bind fun x17 => (ixD v_coercion (PyData.int 1)).bind fun x18 => (cmpD .NotEq x17 x18).map PyData.bool).bind fun x19 => (truD x19).bind fun k16 => cond k16 (some x19) (((ixD v_coercion (PyData.int 3)).bind fun x21 => ((ixD v_value (PyData.int 2)).bind fun x20 => some ([x20])).bind fun ys22 => some (x21 :: ys22)).bind fun ds23 => callN T hd.G k "does_take" ds23)) (some x15)).bind fun x24 => some x24) (((ixD v_coercion (PyData.int 0)).bind fun x80 => cmpD .Eq x80 (PyData.str "to")).bind fun k27 => cond k27 ((((ixD v_coercion (PyData.int 1)).bind fun x30 => some ([x30, v_value])).bind fun ds31 => callN T hd.G k "does_take" ds31).bind fun x32 => some x32) (((ixD v_coercion (PyData.int 0)).bind fun x79 => cmpD .In x79 (PyData.tuple [(PyData.str "id"), (PyData.str "fail")])).bind fun k35 => cond k35 (((ixD v_value (PyData.int 0)).bind fun x38 => (ixD v_coercion (PyData.int 1)).bind fun x39 => (cmpD .Eq x38 x39).map PyData.bool).bind fun x40 => some x40) ((((ixD v_value (PyData.int 0)).bind fun x77 => (ixD v_coercion (PyData.int 0)).bind fun x78 => cmpD .NotEq x77 x78).bind fun k75 => cond k75 (some true) ((ixD v_coercion (PyData.int 0)).bind fun x76 => cmpD .In x76 (PyData.tuple [(PyData.str "fun"), (PyData.str "cell")]))).bind fun k43 => cond k43 (some (PyData.bool false)) (((ixD v_value (PyData.int 0)).bind fun x74 => cmpD .Eq x74 (PyData.str "list")).bind fun k48 => cond k48 ((((((slD v_value (some 1) none).bind fun x52 => items x52).bind fun xs53 => lim (compM (fun x54 => (((ixD v_coercion (PyData.int 1)).bind fun x55 => some ([x55, x54])).bind fun ds56 => callN T hd.G k "does_take" ds56).bind fun x57 => some (some x57)) xs53)).bind fun x58 => some ([x58])).bind fun ds59 => bD .all ds59).bind fun x60 => some x60) (((((ixD v_coercion (PyData.int 1)).bind fun x65 => ((ixD v_value (PyData.int 1)).bind fun x64 => some ([x64])).bind fun ys66 => some (x65 :: ys66)).bind fun ds67 => callN T hd.G k "does_take" ds67).bind fun x68 => (truD x68).bind fun k63 => cond k63 (((ixD v_coercion (PyData.int 2)).bind fun x70 => ((ixD v_value (PyData.int 2)).bind fun x69 => some ([x69])).bind fun ys71 => some (x70 :: ys71)).bind fun ds72 => callN T hd.G k "does_take" ds72) (some x68)).bind fun x73 => some x73)))))) := (callK (d := f_does_take) (by kernel_rfl) rfl rfl).trans (by kernel_rfl)
theorem r_applied (k : Nat) (v_coercion v_value : D) : callN T hd.G (k + 1) "applied" [v_coercion, v_value] =
    (callN T hd.G k "check_coercion" [v_coercion]).bind fun x3 => ((((callN T hd.G k "is_value" [v_value]).bind fun x14 => truD x14).map (!·)).bind fun k12 => cond k12 (some true) (((callN T hd.G k "does_take" [v_coercion, v_value]).bind fun x13 => truD x13).map (!·))).bind fun k6 => cond k6 (none) ((callN T hd.G k "seen" [v_coercion, v_value]).bind fun x11 => some x11) := (callK (d := f_applied) (by kernel_rfl) rfl rfl).trans (by kernel_rfl)
theorem r_are_alike (k : Nat) (v_one v_two : D) : callN T hd.G (k + 1) "are_alike" [v_one, v_two] =
    (((ixD v_one (PyData.int 0)).bind fun x67 => (ixD v_two (PyData.int 0)).bind fun x68 => cmpD .NotEq x67 x68).bind fun k64 => cond k64 (some true) ((bD .len [v_one]).bind fun x65 => (bD .len [v_two]).bind fun x66 => cmpD .NotEq x65 x66)).bind fun k3 => cond k3 (some (PyData.bool false)) (((ixD v_one (PyData.int 0)).bind fun x63 => cmpD .Eq x63 (PyData.str "fail")).bind fun k8 => cond k8 (((slD v_one (some 1) (some 3)).bind fun x11 => (slD v_two (some 1) (some 3)).bind fun x12 => (cmpD .Eq x11 x12).map PyData.bool).bind fun x13 => some x13) (((ixD v_one (PyData.int 0)).bind fun x62 => cmpD .Eq x62 (PyData.str "from")).bind fun k16 => cond k16 ((((slD v_one (some 1) (some 3)).bind fun x20 => (slD v_two (some 1) (some 3)).bind fun x21 => (cmpD .Eq x20 x21).map PyData.bool).bind fun x22 => (truD x22).bind fun k19 => cond k19 (((ixD v_one (PyData.int 3)).bind fun x24 => ((ixD v_two (PyData.int 3)).bind fun x23 => some ([x23])).bind fun ys25 => some (x24 :: ys25)).bind fun ds26 => callN T hd.G k "are_alike" ds26) (some x22)).bind fun x27 => some x27) (((ixD v_one (PyData.int 0)).bind fun x61 => cmpD .In x61 (PyData.tuple [(PyData.str "id?"), (PyData.str "id")])).bind fun k30 => cond k30 (((cmpD .Eq v_one v_two).map PyData.bool).bind fun x33 => some x33) (((ixD v_one (PyData.int 0)).bind fun x60 => cmpD .Eq x60 (PyData.str "to")).bind fun k36 => cond k36 ((((ixD v_one (PyData.int 1)).bind fun x40 => ((ixD v_two (PyData.int 1)).bind fun x39 => some ([x39])).bind fun ys41 => some (x40 :: ys41)).bind fun ds42 => callN T hd.G k "are_alike" ds42).bind fun x43 => some x43) ((((((slD v_one (some 1) none).bind fun x47 => (slD v_two (some 1) none).bind fun x48 => zipD x47 x48).bind fun xs49 => lim (compM (fun x50 => (asg f_are_alike.N [Sl.sh v_one, Sl.sh v_two, Sl.un, Sl.un, Sl.un] (nmT ["a", "b"]) x50).bind fun σ51 => ((((σ51[3]?).bind (rd false)).bind fun x53 => (((σ51[4]?).bind (rd false)).bind fun x52 => some ([x52])).bind fun ys54 => some (x53 :: ys54)).bind fun ds55 => callN T hd.G k "are_alike" ds55).bind fun x56 => some (some x56)) xs49)).bind fun x57 => some ([x57])).bind fun ds58 => bD .all ds58).bind fun x59 => some x59))))) := (callK (d := f_are_alike) (by kernel_rfl) rfl rfl).trans (by kernel_rfl)
theorem r_alike (k : Nat) (v_one v_two : D) : callN T hd.G (k + 1) "alike" [v_one, v_two] =
    (callN T hd.G k "check_coercion" [v_one]).bind fun x3 => (callN T hd.G k "check_coercion" [v_two]).bind fun x6 => (callN T hd.G k "are_alike" [v_one, v_two]).bind fun x9 => some x9 := (callK (d := f_alike) (by kernel_rfl) rfl rfl).trans (by kernel_rfl)
theorem r_probes_of (k : Nat) (v_kind v_height : D) : callN T hd.G (k + 1) "probes_of" [v_kind, v_height] =
    (cmpD .Eq v_kind (PyData.tuple [(PyData.str "?")])).bind fun k3 => cond k3 ((cmpD .Eq v_height (PyData.int 0)).bind fun k6 => cond k6 ((((((((ixD (dictD [("int", (PyData.tuple [(PyData.str "int"), (PyData.int 0)])), ("bool", (PyData.tuple [(PyData.str "bool"), (PyData.bool true)])), ("unit", (PyData.tuple [(PyData.str "unit")]))]) (PyData.str "int")).bind fun x9 => some ([x9])).bind fun ys10 => some ((PyData.str "int") :: ys10)).bind fun ys11 => some ((PyData.str "tag") :: ys11)).bind fun ds12 => cond (decide (ds12.length ≤ few)) (some (PyData.tuple ds12)) none).bind fun x13 => some ([x13])).bind fun ds14 => cond (decide (ds14.length ≤ few)) (some (PyData.list ds14)) none).bind fun x15 => some x15) ((compM (fun x19 => (((((ixD (dictD [("int", (PyData.tuple [(PyData.str "int"), (PyData.int 0)])), ("bool", (PyData.tuple [(PyData.str "bool"), (PyData.bool true)])), ("unit", (PyData.tuple [(PyData.str "unit")]))]) x19).bind fun x20 => some ([x20])).bind fun ys21 => some (x19 :: ys21)).bind fun ys22 => some ((PyData.str "tag") :: ys22)).bind fun ds23 => cond (decide (ds23.length ≤ few)) (some (PyData.tuple ds23)) none).bind fun x24 => some (some x24)) [(PyData.str "int"), (PyData.str "bool"), (PyData.str "unit")]).bind fun ys18 => cond (decide (ys18.length ≤ few)) (((callN T hd.G k "probes_of" [(PyData.tuple [(PyData.str "pair"), (PyData.tuple [(PyData.str "?")]), (PyData.tuple [(PyData.str "?")])]), v_height]).bind fun x27 => items x27).bind fun xs28 => (compM (fun x30 => some (some (PyData.tuple [(PyData.str "tag"), (PyData.str "pair"), x30]))) xs28).bind fun ys29 => cond (decide (ys29.length ≤ few)) (cond (decide ((ys18).length + (ys29).length ≤ few)) ((((items (PyData.list (ys18 ++ ys29))).bind fun x39 => ((((callN T hd.G k "probes_of" [(PyData.tuple [(PyData.str "list"), (PyData.tuple [(PyData.str "?")])]), v_height]).bind fun x34 => items x34).bind fun xs35 => lim (compM (fun x36 => some (some (PyData.tuple [(PyData.str "tag"), (PyData.str "list"), x36]))) xs35)).bind fun x37 => (items x37).bind fun x38 => some (x38 ++ [])).bind fun ys40 => some (x39 ++ ys40)).bind fun ds41 => cond (decide (ds41.length ≤ few)) (some (PyData.list ds41)) none).bind fun x42 => some x42) none) none) none)) (((ixD v_kind (PyData.int 0)).bind fun x106 => cmpD .In x106 (dictD [("int", (PyData.tuple [(PyData.str "int"), (PyData.int 0)])), ("bool", (PyData.tuple [(PyData.str "bool"), (PyData.bool true)])), ("unit", (PyData.tuple [(PyData.str "unit")]))])).bind fun k45 => cond k45 (((((ixD v_kind (PyData.int 0)).bind fun x48 => ixD (dictD [("int", (PyData.tuple [(PyData.str "int"), (PyData.int 0)])), ("bool", (PyData.tuple [(PyData.str "bool"), (PyData.bool true)])), ("unit", (PyData.tuple [(PyData.str "unit")]))]) x48).bind fun x49 => some ([x49])).bind fun ds50 => cond (decide (ds50.length ≤ few)) (some (PyData.list ds50)) none).bind fun x51 => some x51) (((slD v_kind (some 1) none).bind fun x54 => items x54).bind fun xs55 => (compM (fun x57 => (((((((binD .Sub v_height (PyData.int 1)).bind fun x58 => some ([x58])).bind fun ys59 => some ((PyData.int 0) :: ys59)).bind fun ds60 => bD .max ds60).bind fun x61 => some ([x61])).bind fun ys62 => some (x57 :: ys62)).bind fun ds63 => callN T hd.G k "probes_of" ds63).bind fun x64 => some (some x64)) xs55).bind fun ys56 => cond (decide (ys56.length ≤ few)) (((ixD v_kind (PyData.int 0)).bind fun x105 => cmpD .Eq x105 (PyData.str "list")).bind fun k67 => cond k67 ((((ixD (PyData.list ys56) (PyData.int 0)).bind fun x71 => items x71).bind fun xs72 => lim (compM (fun x73 => some (some (PyData.tuple [(PyData.str "list"), x73]))) xs72)).bind fun x74 => some x74) (((ixD (PyData.list ys56) (PyData.int 0)).bind fun x77 => items x77).bind fun xs78 => (compM (fun x80 => ((((((ixD (PyData.list ys56) (PyData.int 1)).bind fun x81 => ixD x81 (PyData.int 0)).bind fun x82 => some ([x82])).bind fun ys83 => some (x80 :: ys83)).bind fun ys84 => some ((PyData.str "pair") :: ys84)).bind fun ds85 => cond (decide (ds85.length ≤ few)) (some (PyData.tuple ds85)) none).bind fun x86 => some (some x86)) xs78).bind fun ys79 => cond (decide (ys79.length ≤ few)) ((((items (PyData.list ys79)).bind fun x101 => (((((ixD (PyData.list ys56) (PyData.int 1)).bind fun x90 => slD x90 (some 1) none).bind fun x91 => items x91).bind fun xs92 => lim (compM (fun x93 => (((((ixD (PyData.list ys56) (PyData.int 0)).bind fun x94 => ixD x94 (PyData.int 0)).bind fun x95 => some ([x95, x93])).bind fun ys96 => some ((PyData.str "pair") :: ys96)).bind fun ds97 => cond (decide (ds97.length ≤ few)) (some (PyData.tuple ds97)) none).bind fun x98 => some (some x98)) xs92)).bind fun x99 => (items x99).bind fun x100 => some (x100 ++ [])).bind fun ys102 => some (x101 ++ ys102)).bind fun ds103 => cond (decide (ds103.length ≤ few)) (some (PyData.list ds103)) none).bind fun x104 => some x104) none)) none)) := (callK (d := f_probes_of) (by kernel_rfl) rfl rfl).trans (by kernel_rfl)
theorem r_is_flat (k : Nat) (v_kind : D) : callN T hd.G (k + 1) "is_flat" [v_kind] =
    (((ixD v_kind (PyData.int 0)).bind fun x4 => (cmpD .NotIn x4 (PyData.tuple [(PyData.str "fun"), (PyData.str "cell")])).map PyData.bool).bind fun x5 => (truD x5).bind fun k3 => cond k3 (((((slD v_kind (some 1) none).bind fun x7 => items x7).bind fun xs8 => lim (compM (fun x9 => (callN T hd.G k "is_flat" [x9]).bind fun x10 => some (some x10)) xs8)).bind fun x11 => some ([x11])).bind fun ds12 => bD .all ds12) (some x5)).bind fun x13 => some x13 := (callK (d := f_is_flat) (by kernel_rfl) rfl rfl).trans (by kernel_rfl)
theorem r_probes (k : Nat) (v_kind v_height : D) : callN T hd.G (k + 1) "probes" [v_kind, v_height] =
    (callN T hd.G k "check_type" [v_kind]).bind fun x3 => (((callN T hd.G k "is_flat" [v_kind]).bind fun x18 => truD x18).map (!·)).bind fun k6 => cond k6 (none) ((((cmpD .LtE (PyData.int 1) v_height).bind fun k17 => cond k17 (cmpD .LtE v_height (PyData.int 4)) (some false)).map (!·)).bind fun k11 => cond k11 (none) ((callN T hd.G k "probes_of" [v_kind, v_height]).bind fun x16 => some x16)) := (callK (d := f_probes) (by kernel_rfl) rfl rfl).trans (by kernel_rfl)
theorem r_height_of (k : Nat) (v_told : D) : callN T hd.G (k + 1) "height_of" [v_told] =
    ((ixD v_told (PyData.int 0)).bind fun x31 => cmpD .Eq x31 (PyData.str "to")).bind fun k3 => cond k3 ((((ixD v_told (PyData.int 1)).bind fun x6 => some ([x6])).bind fun ds7 => callN T hd.G k "height_of" ds7).bind fun x8 => some x8) (((ixD v_told (PyData.int 0)).bind fun x30 => cmpD .Eq x30 (PyData.str "from")).bind fun k11 => cond k11 ((((ixD v_told (PyData.int 3)).bind fun x14 => some ([x14])).bind fun ds15 => callN T hd.G k "height_of" ds15).bind fun x16 => some x16) ((((ixD v_told (PyData.int 0)).bind fun x20 => cmpD .In x20 (dictD [("fun", (PyData.int 2)), ("pair", (PyData.int 2)), ("cell", (PyData.int 2)), ("list", (PyData.int 1))])).bind fun k19 => cond k19 ((((((slD v_told (some 1) none).bind fun x22 => items x22).bind fun xs23 => lim (compM (fun x24 => (callN T hd.G k "height_of" [x24]).bind fun x25 => some (some x25)) xs23)).bind fun x26 => some ([x26])).bind fun ds27 => bD .max ds27).bind fun x28 => binD .Add (PyData.int 1) x28) (some ((PyData.int 1)))).bind fun x29 => some x29)) := (callK (d := f_height_of) (by kernel_rfl) rfl rfl).trans (by kernel_rfl)
theorem r_height (k : Nat) (v_told : D) : callN T hd.G (k + 1) "height" [v_told] =
    (callN T hd.G k "check_coercion" [v_told]).bind fun x3 => (callN T hd.G k "height_of" [v_told]).bind fun x6 => some x6 := (callK (d := f_height) (by kernel_rfl) rfl rfl).trans (by kernel_rfl)
theorem r__law_draws (k : Nat) (v_script : D) : callN T hd.G (k + 1) "_law_draws" [v_script] =
    ((((((bD .len [v_script]).bind fun x5 => some ([x5])).bind fun ys6 => some ((PyData.int 63) :: ys6)).bind fun ds7 => bD .min ds7).bind fun x8 => rng1 x8).bind fun xs9 => forL (fun σ x => asg f__law_draws.N σ (forT (stAt f__law_draws.body 1)) x) (fun σ => exs ⟨f__law_draws.N, hd.G, callN T hd.G k⟩ 57 σ (forB (stAt f__law_draws.body 1))) xs9 [Sl.sh v_script, Sl.ow [], Sl.un, Sl.un, Sl.un, Sl.un]).bind (fun fl4 => match fl4 with | .next σ3 => exsK ⟨f__law_draws.N, hd.G, callN T hd.G k⟩ 58 σ3 (f__law_draws.body.drop 2) endK | fl4 => endK fl4) := (callK (d := f__law_draws) (by kernel_rfl) rfl rfl).trans (by kernel_rfl)
theorem r__law_draws_1g (z_0 z_1 z_2 z_3 z_4 z_5 : Sl) (v_x : D) : asg f__law_draws.N [z_0, z_1, z_2, z_3, z_4, z_5] (forT (stAt f__law_draws.body 1)) v_x =
    some [z_0, z_1, Sl.sh v_x, z_3, z_4, z_5] := by kernel_rfl
theorem r__law_draws_1b (k : Nat) (w_0 : D) (l_1 : List D) (s_3 : Sl) (s_4 : Sl) (s_5 : Sl) (v_x : D) : exs ⟨f__law_draws.N, hd.G, callN T hd.G k⟩ 57 [Sl.sh w_0, Sl.ow l_1, Sl.sh v_x, s_3, s_4, s_5] (forB (stAt f__law_draws.body 1)) =
    (((ixD w_0 v_x).bind fun x12 => some ([x12])).bind fun ds13 => bD .abs ds13).bind fun x14 => ((binD .Pow (PyData.int 10) (PyData.int 18)).bind fun x49 => cmpD .GtE x14 x49).bind fun k17 => cond k17 (((rng1 (PyData.int 60)).bind fun xs20 => forL (fun σ x => asg f__law_draws.N σ (forT (stAt (ifA (stAt (forB (stAt f__law_draws.body 1)) 1)) 0)) x) (fun σ => exs ⟨f__law_draws.N, hd.G, callN T hd.G k⟩ 52 σ (forB (stAt (ifA (stAt (forB (stAt f__law_draws.body 1)) 1)) 0))) xs20 [Sl.sh w_0, Sl.ow l_1, Sl.sh v_x, Sl.sh x14, s_4, s_5]).bind (fun fl19 => match fl19 with | .next σ18 => exsK ⟨f__law_draws.N, hd.G, callN T hd.G k⟩ 53 σ18 ((ifA (stAt (forB (stAt f__law_draws.body 1)) 1)).drop 1) (fun fl16 => match fl16 with | .next σ15 => exsK ⟨f__law_draws.N, hd.G, callN T hd.G k⟩ 55 σ15 ((forB (stAt f__law_draws.body 1)).drop 2) some | fl16 => some fl16) | fl19 => (fun fl16 => match fl16 with | .next σ15 => exsK ⟨f__law_draws.N, hd.G, callN T hd.G k⟩ 55 σ15 ((forB (stAt f__law_draws.body 1)).drop 2) some | fl16 => some fl16) fl19)) ((((((binD .Mult x14 (PyData.int 48271)).bind fun x23 => ((binD .Add v_x (PyData.int 1)).bind fun x24 => binD .Mult x24 (PyData.int 69621)).bind fun x25 => binD .Add x23 x25).bind fun x26 => some ([x26])).bind fun ds27 => bD .int ds27).bind fun x28 => binD .Mod x28 (PyData.int 2147483647)).bind fun x29 => ((((((binD .Mult x29 (PyData.int 16807)).bind fun x32 => (binD .Mult (PyData.int 11) v_x).bind fun x33 => binD .Add x32 x33).bind fun x34 => binD .Add x34 (PyData.int 5)).bind fun x35 => some ([x35])).bind fun ds36 => bD .int ds36).bind fun x37 => binD .Mod x37 (PyData.int 2147483629)).bind fun x38 => ((bD .int [x38]).bind fun x41 => binD .Mod x41 (PyData.int 65536)).bind fun x42 => cond (decide ((l_1).length < few)) (((((binD .FloorDiv x38 (PyData.int 65536)).bind fun x45 => some ([x45])).bind fun ds46 => bD .int ds46).bind fun x47 => binD .Mod x47 (PyData.int 32768)).bind fun x48 => cond (decide (((l_1 ++ [x42])).length < few)) (some (Fl.next [Sl.sh w_0, Sl.ow ((l_1 ++ [x42]) ++ [x48]), Sl.sh v_x, Sl.sh x14, s_4, Sl.sh x38])) none) none) := bodyK.trans (by kernel_rfl)
theorem r__law_draws_1b1t0g (z_0 z_1 z_2 z_3 z_4 z_5 : Sl) (v_x : D) : asg f__law_draws.N [z_0, z_1, z_2, z_3, z_4, z_5] (forT (stAt (ifA (stAt (forB (stAt f__law_draws.body 1)) 1)) 0)) v_x =
    some [z_0, z_1, z_2, z_3, Sl.sh v_x, z_5] := by kernel_rfl
theorem r__law_draws_1b1t0b (k : Nat) (w_0 : D) (l_1 : List D) (w_2 : D) (s_3 : Sl) (s_5 : Sl) (v_x : D) : exs ⟨f__law_draws.N, hd.G, callN T hd.G k⟩ 52 [Sl.sh w_0, Sl.ow l_1, Sl.sh w_2, s_3, Sl.sh v_x, s_5] (forB (stAt (ifA (stAt (forB (stAt f__law_draws.body 1)) 1)) 0)) =
    ((rd true s_3).bind fun x63 => cmpD .Gt x63 (PyData.int 0)).bind fun k52 => cond k52 (((((rd true s_3).bind fun x55 => some ([x55])).bind fun ds56 => bD .int ds56).bind fun x57 => binD .Mod x57 (PyData.int 65536)).bind fun x58 => cond (decide ((l_1).length < few)) (((rd true s_3).bind fun x61 => binD .FloorDiv x61 (PyData.int 65536)).bind fun x62 => some (Fl.next [Sl.sh w_0, Sl.ow (l_1 ++ [x58]), Sl.sh w_2, Sl.sh x62, Sl.sh v_x, s_5])) none) (some (Fl.next [Sl.sh w_0, Sl.ow l_1, Sl.sh w_2, s_3, Sl.sh v_x, s_5])) := bodyK.trans (by kernel_rfl)
theorem r__law_draws_1a (k : Nat) (w_0 : D) (l_1 : List D) (s_2 : Sl) (s_3 : Sl) (s_4 : Sl) (s_5 : Sl) : exsK ⟨f__law_draws.N, hd.G, callN T hd.G k⟩ 58 [Sl.sh w_0, Sl.ow l_1, s_2, s_3, s_4, s_5] (f__law_draws.body.drop 2) endK =
    some (PyData.list l_1) := by kernel_rfl
theorem r__law_mix (k : Nat) (v_draws v_k v_many : D) : callN T hd.G (k + 1) "_law_mix" [v_draws, v_k, v_many] =
    ((bD .len [v_draws]).bind fun x50 => cmpD .Gt x50 (PyData.int 0)).bind fun k5 => cond k5 ((((bD .int [v_k]).bind fun x8 => (bD .len [v_draws]).bind fun x9 => binD .Mod x8 x9).bind fun x10 => ixD v_draws x10).bind fun x11 => ((bD .len [v_draws]).bind fun x30 => cmpD .Lt v_k x30).bind fun k14 => cond k14 (((bD .int [x11]).bind fun x17 => binD .Mod x17 v_many).bind fun x18 => some x18) (((((((((binD .Mult x11 (PyData.int 7919)).bind fun x21 => (binD .Mult v_k (PyData.int 104729)).bind fun x22 => binD .Add x21 x22).bind fun x23 => some ([x23])).bind fun ds24 => bD .int ds24).bind fun x25 => binD .FloorDiv x25 (PyData.int 3)).bind fun x26 => some ([x26])).bind fun ds27 => bD .int ds27).bind fun x28 => binD .Mod x28 v_many).bind fun x29 => some x29)) (((bD .len [v_draws]).bind fun x49 => cmpD .Lt v_k x49).bind fun k33 => cond k33 (((bD .int [(PyData.int 0)]).bind fun x36 => binD .Mod x36 v_many).bind fun x37 => some x37) (((((((((binD .Mult (PyData.int 0) (PyData.int 7919)).bind fun x40 => (binD .Mult v_k (PyData.int 104729)).bind fun x41 => binD .Add x40 x41).bind fun x42 => some ([x42])).bind fun ds43 => bD .int ds43).bind fun x44 => binD .FloorDiv x44 (PyData.int 3)).bind fun x45 => some ([x45])).bind fun ds46 => bD .int ds46).bind fun x47 => binD .Mod x47 v_many).bind fun x48 => some x48)) := (callK (d := f__law_mix) (by kernel_rfl) rfl rfl).trans (by kernel_rfl)
theorem r__law_type (k : Nat) (v_draws v_k v_deep v_heads : D) : callN T hd.G (k + 1) "_law_type" [v_draws, v_k, v_deep, v_heads] =
    (((((((cmpD .Gt v_deep (PyData.int 0)).map PyData.bool).bind fun x3 => some ([x3])).bind fun ds4 => bD .int ds4).bind fun x5 => binD .Mult v_heads x5).bind fun x6 => binD .Add (PyData.list [(PyData.str "?"), (PyData.str "int"), (PyData.str "bool"), (PyData.str "unit")]) x6).bind fun x7 => (((((((bD .len [v_heads]).bind fun x8 => ((((cmpD .Gt v_deep (PyData.int 0)).map PyData.bool).bind fun x9 => some ([x9])).bind fun ds10 => bD .int ds10).bind fun x11 => binD .Mult x8 x11).bind fun x12 => binD .Add (PyData.int 4) x12).bind fun x13 => some ([x13])).bind fun ys14 => some (v_k :: ys14)).bind fun ys15 => some (v_draws :: ys15)).bind fun ds16 => callN T hd.G k "_law_mix" ds16).bind fun x17 => ixD x7 x17).bind fun x18 => (getI2 [("fun", 2), ("pair", 2), ("cell", 1), ("list", 1)] x18 (PyData.int 0)).bind fun x21 => (((((rng1 x21).bind fun xs25 => lim (compM (fun x26 => ((((((binD .Mult (PyData.int 3) v_k).bind fun x27 => binD .Add x27 (PyData.int 1)).bind fun x28 => binD .Add x28 x26).bind fun x30 => ((binD .Sub v_deep (PyData.int 1)).bind fun x29 => some ([x29, v_heads])).bind fun ys31 => some (x30 :: ys31)).bind fun ys32 => some (v_draws :: ys32)).bind fun ds33 => callN T hd.G k "_law_type" ds33).bind fun x34 => some (some x34)) xs25)).bind fun x35 => some ([x35])).bind fun ds36 => bD .tuple ds36).bind fun x37 => binD .Add (PyData.tuple [x18]) x37).bind fun x38 => some x38 := (callK (d := f__law_type) (by kernel_rfl) rfl rfl).trans (by kernel_rfl)
theorem r__law_next (k : Nat) (v_draws v_k v_kind v_deep v_heads : D) : callN T hd.G (k + 1) "_law_next" [v_draws, v_k, v_kind, v_deep, v_heads] =
    ((cmpD .Eq v_kind (PyData.tuple [(PyData.str "?")])).bind fun k42 => cond k42 (some true) ((callN T hd.G k "_law_mix" [v_draws, v_k, (PyData.int 4)]).bind fun x43 => cmpD .Eq x43 (PyData.int 0))).bind fun k3 => cond k3 (((((((((binD .Add v_k (PyData.int 1)).bind fun x6 => some ([x6, v_deep, v_heads])).bind fun ys7 => some (v_draws :: ys7)).bind fun ds8 => callN T hd.G k "_law_type" ds8).bind fun x9 => some ([x9])).bind fun ys10 => some ((PyData.tuple [(PyData.str "?")]) :: ys10)).bind fun ds11 => cond (decide (ds11.length ≤ few)) (some (PyData.list ds11)) none).bind fun x12 => ((((cmpD .Eq v_kind (PyData.tuple [(PyData.str "?")])).map PyData.bool).bind fun x13 => some ([x13])).bind fun ds14 => bD .int ds14).bind fun x15 => ixD x12 x15).bind fun x16 => some x16) (((((ixD v_kind (PyData.int 0)).bind fun x19 => some ([x19])).bind fun ds20 => cond (decide (ds20.length ≤ few)) (some (PyData.tuple ds20)) none).bind fun x21 => ((((((bD .len [v_kind]).bind fun x23 => binD .Sub x23 (PyData.int 1)).bind fun x24 => rng1 x24).bind fun xs25 => lim (compM (fun x26 => ((((((binD .Mult (PyData.int 3) v_k).bind fun x27 => binD .Add x27 (PyData.int 2)).bind fun x28 => binD .Add x28 x26).bind fun x33 => (((binD .Add (PyData.int 1) x26).bind fun x29 => ixD v_kind x29).bind fun x31 => ((binD .Sub v_deep (PyData.int 1)).bind fun x30 => some ([x30, v_heads])).bind fun ys32 => some (x31 :: ys32)).bind fun ys34 => some (x33 :: ys34)).bind fun ys35 => some (v_draws :: ys35)).bind fun ds36 => callN T hd.G k "_law_next" ds36).bind fun x37 => some (some x37)) xs25)).bind fun x38 => some ([x38])).bind fun ds39 => bD .tuple ds39).bind fun x40 => binD .Add x21 x40).bind fun x41 => some x41) := (callK (d := f__law_next) (by kernel_rfl) rfl rfl).trans (by kernel_rfl)
theorem r__law_seen (k : Nat) (v_told v_value : D) : callN T hd.G (k + 1) "_law_seen" [v_told, v_value] =
    (((ixD v_value (PyData.int 0)).bind fun x85 => cmpD .Eq x85 (PyData.str "blame")).bind fun k83 => cond k83 (some true) ((ixD v_told (PyData.int 0)).bind fun x84 => cmpD .In x84 (PyData.list [(PyData.str "id?"), (PyData.str "id")]))).bind fun k3 => cond k3 (some v_value) (((ixD v_told (PyData.int 0)).bind fun x82 => cmpD .Eq x82 (PyData.str "fail")).bind fun k8 => cond k8 (((((ixD v_told (PyData.int 2)).bind fun x11 => some ([x11])).bind fun ys12 => some ((PyData.str "blame") :: ys12)).bind fun ds13 => cond (decide (ds13.length ≤ few)) (some (PyData.tuple ds13)) none).bind fun x14 => some x14) (((ixD v_told (PyData.int 0)).bind fun x81 => cmpD .Eq x81 (PyData.str "to")).bind fun k17 => cond k17 ((((ixD v_told (PyData.int 1)).bind fun x20 => some ([x20, v_value])).bind fun ds21 => callN T hd.G k "_law_seen" ds21).bind fun x22 => (((((((ixD v_told (PyData.int 2)).bind fun x25 => some ([x25, x22])).bind fun ys26 => some ((PyData.str "tag") :: ys26)).bind fun ds27 => cond (decide (ds27.length ≤ few)) (some (PyData.tuple ds27)) none).bind fun x28 => some ([x28, x22])).bind fun ds29 => cond (decide (ds29.length ≤ few)) (some (PyData.list ds29)) none).bind fun x30 => ((((ixD x22 (PyData.int 0)).bind fun x31 => (cmpD .Eq x31 (PyData.str "blame")).map PyData.bool).bind fun x32 => some ([x32])).bind fun ds33 => bD .int ds33).bind fun x34 => ixD x30 x34).bind fun x35 => some x35) (((ixD v_told (PyData.int 0)).bind fun x80 => cmpD .Eq x80 (PyData.str "from")).bind fun k38 => cond k38 (((ixD v_value (PyData.int 1)).bind fun x55 => (ixD v_told (PyData.int 1)).bind fun x56 => cmpD .NotEq x55 x56).bind fun k41 => cond k41 (((((ixD v_told (PyData.int 2)).bind fun x44 => some ([x44])).bind fun ys45 => some ((PyData.str "blame") :: ys45)).bind fun ds46 => cond (decide (ds46.length ≤ few)) (some (PyData.tuple ds46)) none).bind fun x47 => some x47) ((((ixD v_told (PyData.int 3)).bind fun x51 => ((ixD v_value (PyData.int 2)).bind fun x50 => some ([x50])).bind fun ys52 => some (x51 :: ys52)).bind fun ds53 => callN T hd.G k "_law_seen" ds53).bind fun x54 => some x54)) (((((ixD v_value (PyData.int 0)).bind fun x59 => some ([x59])).bind fun ds60 => cond (decide (ds60.length ≤ few)) (some (PyData.tuple ds60)) none).bind fun x61 => (((((bD .len [v_value]).bind fun x63 => rng2 (PyData.int 1) x63).bind fun xs64 => lim (compM (fun x65 => ((((((((ixD v_value (PyData.int 0)).bind fun x66 => (cmpD .Eq x66 (PyData.str "list")).map PyData.bool).bind fun x67 => some ([x67])).bind fun ds68 => bD .int ds68).bind fun x69 => ixD (PyData.list [x65, (PyData.int 1)]) x69).bind fun x70 => ixD v_told x70).bind fun x72 => ((ixD v_value x65).bind fun x71 => some ([x71])).bind fun ys73 => some (x72 :: ys73)).bind fun ds74 => callN T hd.G k "_law_seen" ds74).bind fun x75 => some (some x75)) xs64)).bind fun x76 => some ([x76])).bind fun ds77 => bD .tuple ds77).bind fun x78 => binD .Add x61 x78).bind fun x79 => some x79)))) := (callK (d := f__law_seen) (by kernel_rfl) rfl rfl).trans (by kernel_rfl)
theorem r__law_value (k : Nat) (v_draws v_k v_kind v_deep : D) : callN T hd.G (k + 1) "_law_value" [v_draws, v_k, v_kind, v_deep] =
    (cmpD .Eq v_kind (PyData.tuple [(PyData.str "?")])).bind fun k3 => cond k3 (((((binD .Add v_k (PyData.int 1)).bind fun x6 => some ([x6, v_deep, (PyData.list [(PyData.str "pair"), (PyData.str "list")])])).bind fun ys7 => some (v_draws :: ys7)).bind fun ds8 => callN T hd.G k "_law_type" ds8).bind fun x9 => (whileL (fun σ => tst ⟨f__law_value.N, hd.G, callN T hd.G k⟩ ED σ (whT (stAt (ifA (stAt f__law_value.body 0)) 1))) (fun σ => exs ⟨f__law_value.N, hd.G, callN T hd.G k⟩ 55 σ (whB (stAt (ifA (stAt f__law_value.body 0)) 1))) turns [Sl.sh v_draws, Sl.sh v_k, Sl.sh v_kind, Sl.sh v_deep, Sl.sh x9, Sl.un, Sl.un, Sl.un]).bind (fun fl11 => match fl11 with | .next σ10 => exsK ⟨f__law_value.N, hd.G, callN T hd.G k⟩ 56 σ10 ((ifA (stAt f__law_value.body 0)).drop 2) (fun fl2 => match fl2 with | .next σ1 => exsK ⟨f__law_value.N, hd.G, callN T hd.G k⟩ 59 σ1 (f__law_value.body.drop 1) endK | fl2 => endK fl2) | fl11 => (fun fl2 => match fl2 with | .next σ1 => exsK ⟨f__law_value.N, hd.G, callN T hd.G k⟩ 59 σ1 (f__law_value.body.drop 1) endK | fl2 => endK fl2) fl11)) (((ixD v_kind (PyData.int 0)).bind fun x80 => cmpD .Eq x80 (PyData.str "int")).bind fun k14 => cond k14 ((((((callN T hd.G k "_law_mix" [v_draws, v_k, (PyData.int 100)]).bind fun x17 => binD .Sub x17 (PyData.int 9)).bind fun x18 => some ([x18])).bind fun ys19 => some ((PyData.str "int") :: ys19)).bind fun ds20 => cond (decide (ds20.length ≤ few)) (some (PyData.tuple ds20)) none).bind fun x21 => some x21) (((ixD v_kind (PyData.int 0)).bind fun x79 => cmpD .Eq x79 (PyData.str "bool")).bind fun k24 => cond k24 ((((((callN T hd.G k "_law_mix" [v_draws, v_k, (PyData.int 2)]).bind fun x27 => (cmpD .Eq x27 (PyData.int 0)).map PyData.bool).bind fun x28 => some ([x28])).bind fun ys29 => some ((PyData.str "bool") :: ys29)).bind fun ds30 => cond (decide (ds30.length ≤ few)) (some (PyData.tuple ds30)) none).bind fun x31 => some x31) (((ixD v_kind (PyData.int 0)).bind fun x78 => cmpD .Eq x78 (PyData.str "unit")).bind fun k34 => cond k34 (some (PyData.tuple [(PyData.str "unit")])) (((ixD v_kind (PyData.int 0)).bind fun x77 => cmpD .Eq x77 (PyData.str "list")).bind fun k39 => cond k39 (((((((callN T hd.G k "_law_mix" [v_draws, v_k, (PyData.int 3)]).bind fun x43 => rng1 x43).bind fun xs44 => lim (compM (fun x45 => (((((binD .Mult (PyData.int 3) v_k).bind fun x46 => binD .Add x46 x45).bind fun x48 => ((ixD v_kind (PyData.int 1)).bind fun x47 => some ([x47, v_deep])).bind fun ys49 => some (x48 :: ys49)).bind fun ys50 => some (v_draws :: ys50)).bind fun ds51 => callN T hd.G k "_law_value" ds51).bind fun x52 => some (some x52)) xs44)).bind fun x53 => some ([x53])).bind fun ds54 => bD .tuple ds54).bind fun x55 => binD .Add (PyData.tuple [(PyData.str "list")]) x55).bind fun x56 => some x56) (((((((((binD .Mult (PyData.int 3) v_k).bind fun x59 => binD .Add x59 (PyData.int 1)).bind fun x61 => ((ixD v_kind (PyData.int 1)).bind fun x60 => some ([x60, v_deep])).bind fun ys62 => some (x61 :: ys62)).bind fun ys63 => some (v_draws :: ys63)).bind fun ds64 => callN T hd.G k "_law_value" ds64).bind fun x72 => ((((((binD .Mult (PyData.int 3) v_k).bind fun x65 => binD .Add x65 (PyData.int 2)).bind fun x67 => ((ixD v_kind (PyData.int 2)).bind fun x66 => some ([x66, v_deep])).bind fun ys68 => some (x67 :: ys68)).bind fun ys69 => some (v_draws :: ys69)).bind fun ds70 => callN T hd.G k "_law_value" ds70).bind fun x71 => some ([x71])).bind fun ys73 => some (x72 :: ys73)).bind fun ys74 => some ((PyData.str "pair") :: ys74)).bind fun ds75 => cond (decide (ds75.length ≤ few)) (some (PyData.tuple ds75)) none).bind fun x76 => some x76))))) := (callK (d := f__law_value) (by kernel_rfl) rfl rfl).trans (by kernel_rfl)
theorem r__law_labels (k : Nat) (v_told : D) : callN T hd.G (k + 1) "_law_labels" [v_told] =
    (((slD v_told (some 1) none).bind fun x5 => items x5).bind fun xs6 => forL (fun σ x => asg f__law_labels.N σ (forT (stAt f__law_labels.body 1)) x) (fun σ => exs ⟨f__law_labels.N, hd.G, callN T hd.G k⟩ 57 σ (forB (stAt f__law_labels.body 1))) xs6 [Sl.sh v_told, Sl.ow [], Sl.un]).bind (fun fl4 => match fl4 with | .next σ3 => exsK ⟨f__law_labels.N, hd.G, callN T hd.G k⟩ 58 σ3 (f__law_labels.body.drop 2) endK | fl4 => endK fl4) := (callK (d := f__law_labels) (by kernel_rfl) rfl rfl).trans (by kernel_rfl)
theorem r__law_labels_1g (z_0 z_1 z_2 : Sl) (v_x : D) : asg f__law_labels.N [z_0, z_1, z_2] (forT (stAt f__law_labels.body 1)) v_x =
    some [z_0, z_1, Sl.sh v_x] := by kernel_rfl
theorem r__law_labels_1b (k : Nat) (w_0 : D) (l_1 : List D) (v_x : D) : exs ⟨f__law_labels.N, hd.G, callN T hd.G k⟩ 57 [Sl.sh w_0, Sl.ow l_1, Sl.sh v_x] (forB (stAt f__law_labels.body 1)) =
    ((((isTy .tuple v_x).map PyData.bool).bind fun x25 => truD x25).bind fun k20 => cond k20 (((bD .len [v_x]).bind fun x24 => cmpD .Eq x24 (PyData.int 2)).bind fun k21 => cond k21 (((ixD v_x (PyData.int 0)).bind fun x22 => (isTy .int x22).map PyData.bool).bind fun x23 => truD x23) (some false)) (some false)).bind fun k9 => cond k9 (cond (decide ((l_1).length < few)) (some (Fl.next [Sl.sh w_0, Sl.ow (l_1 ++ [v_x]), Sl.sh v_x])) none) ((((isTy .tuple v_x).map PyData.bool).bind fun x19 => truD x19).bind fun k14 => cond k14 (((callN T hd.G k "_law_labels" [v_x]).bind fun x17 => binD .Add (PyData.list l_1) x17).bind fun x18 => some (Fl.next [Sl.sh w_0, (owS x18), Sl.sh v_x])) (some (Fl.next [Sl.sh w_0, Sl.ow l_1, Sl.sh v_x]))) := bodyK.trans (by kernel_rfl)
theorem r__law_labels_1a (k : Nat) (w_0 : D) (l_1 : List D) (s_2 : Sl) : exsK ⟨f__law_labels.N, hd.G, callN T hd.G k⟩ 58 [Sl.sh w_0, Sl.ow l_1, s_2] (f__law_labels.body.drop 2) endK =
    some (PyData.list l_1) := by kernel_rfl
theorem r__law_bare (k : Nat) (v_told : D) : callN T hd.G (k + 1) "_law_bare" [v_told] =
    ((ixD v_told (PyData.int 0)).bind fun x12 => cmpD .Eq x12 (PyData.str "fail")).bind fun k3 => cond k3 ((slD v_told none (some 3)).bind fun x6 => some x6) (((items v_told).bind fun xs11 => forL (fun σ x => asg f__law_bare.N σ (forT (stAt f__law_bare.body 2)) x) (fun σ => exs ⟨f__law_bare.N, hd.G, callN T hd.G k⟩ 56 σ (forB (stAt f__law_bare.body 2))) xs11 [Sl.sh v_told, Sl.sh (PyData.tuple []), Sl.un]).bind (fun fl10 => match fl10 with | .next σ9 => exsK ⟨f__law_bare.N, hd.G, callN T hd.G k⟩ 57 σ9 (f__law_bare.body.drop 3) endK | fl10 => endK fl10)) := (callK (d := f__law_bare) (by kernel_rfl) rfl rfl).trans (by kernel_rfl)
theorem r__law_bare_2g (z_0 z_1 z_2 : Sl) (v_x : D) : asg f__law_bare.N [z_0, z_1, z_2] (forT (stAt f__law_bare.body 2)) v_x =
    some [z_0, z_1, Sl.sh v_x] := by kernel_rfl
theorem r__law_bare_2b (k : Nat) (w_0 : D) (s_1 : Sl) (v_x : D) : exs ⟨f__law_bare.N, hd.G, callN T hd.G k⟩ 56 [Sl.sh w_0, s_1, Sl.sh v_x] (forB (stAt f__law_bare.body 2)) =
    ((((isTy .tuple v_x).map PyData.bool).bind fun x30 => truD x30).bind fun k27 => cond k27 (((ixD v_x (PyData.int 0)).bind fun x28 => (isTy .str x28).map PyData.bool).bind fun x29 => truD x29) (some false)).bind fun k15 => cond k15 (((rd true s_1).bind fun x18 => (((callN T hd.G k "_law_bare" [v_x]).bind fun x19 => some ([x19])).bind fun ds20 => cond (decide (ds20.length ≤ few)) (some (PyData.tuple ds20)) none).bind fun x21 => binD .Add x18 x21).bind fun x22 => some (Fl.next [Sl.sh w_0, (owS x22), Sl.sh v_x])) (((rd true s_1).bind fun x25 => binD .Add x25 (PyData.tuple [v_x])).bind fun x26 => some (Fl.next [Sl.sh w_0, (owS x26), Sl.sh v_x])) := bodyK.trans (by kernel_rfl)
theorem r__law_bare_2a (k : Nat) (w_0 : D) (s_1 : Sl) (s_2 : Sl) : exsK ⟨f__law_bare.N, hd.G, callN T hd.G k⟩ 57 [Sl.sh w_0, s_1, s_2] (f__law_bare.body.drop 3) endK =
    (rd false (Sl.share s_1)).bind fun x33 => some x33 := by kernel_rfl
theorem r__law_made_up (k : Nat) (v_draws v_k v_kinds : D) : callN T hd.G (k + 1) "_law_made_up" [v_draws, v_k, v_kinds] =
    (((ixD v_kinds (PyData.int 0)).bind fun x3 => some ([x3])).bind fun ds4 => callN T hd.G k "identity" ds4).bind fun x5 => (ixD v_kinds (PyData.int 0)).bind fun x6 => (((callN T hd.G k "_law_mix" [v_draws, v_k, (PyData.int 3)]).bind fun x9 => rng1 x9).bind fun xs10 => forL (fun σ x => asg f__law_made_up.N σ (forT (stAt f__law_made_up.body 1)) x) (fun σ => exs ⟨f__law_made_up.N, hd.G, callN T hd.G k⟩ 57 σ (forB (stAt f__law_made_up.body 1))) xs10 [Sl.sh v_draws, Sl.sh v_k, Sl.sh v_kinds, Sl.sh x5, Sl.sh x6, Sl.un, Sl.un, Sl.un]).bind (fun fl8 => match fl8 with | .next σ7 => exsK ⟨f__law_made_up.N, hd.G, callN T hd.G k⟩ 58 σ7 (f__law_made_up.body.drop 2) endK | fl8 => endK fl8) := (callK (d := f__law_made_up) (by kernel_rfl) rfl rfl).trans (by kernel_rfl)
theorem r__law_made_up_1g (z_0 z_1 z_2 z_3 z_4 z_5 z_6 z_7 : Sl) (v_x : D) : asg f__law_made_up.N [z_0, z_1, z_2, z_3, z_4, z_5, z_6, z_7] (forT (stAt f__law_made_up.body 1)) v_x =
    some [z_0, z_1, z_2, z_3, z_4, Sl.sh v_x, z_6, z_7] := by kernel_rfl
theorem r__law_made_up_1b (k : Nat) (w_0 : D) (w_1 : D) (w_2 : D) (s_3 : Sl) (s_4 : Sl) (s_6 : Sl) (v_x : D) : exs ⟨f__law_made_up.N, hd.G, callN T hd.G k⟩ 57 [Sl.sh w_0, Sl.sh w_1, Sl.sh w_2, s_3, s_4, Sl.sh v_x, s_6, Sl.un] (forB (stAt f__law_made_up.body 1)) =
    (((((binD .Mult (PyData.int 100) w_1).bind fun x13 => (binD .Mult (PyData.int 40) v_x).bind fun x14 => binD .Add x13 x14).bind fun x16 => ((rd false (Sl.share s_4)).bind fun x15 => some ([x15, (PyData.int 2), (PyData.list [(PyData.str "pair"), (PyData.str "list")])])).bind fun ys17 => some (x16 :: ys17)).bind fun ys18 => some (w_0 :: ys18)).bind fun ds19 => callN T hd.G k "_law_next" ds19).bind fun x20 => (((rd false (Sl.share s_3)).bind fun x38 => ((((rd false (Sl.share (Sl.share s_4))).bind fun x34 => (((((((((binD .Add w_1 (PyData.int 1)).bind fun x23 => binD .Add x23 v_x).bind fun x26 => (((callN T hd.G k "_law_mix" [w_0, (PyData.int 7), (PyData.int 2)]).bind fun x24 => ixD (PyData.list [(PyData.int 3), (PyData.int 900)]) x24).bind fun x25 => some ([x25])).bind fun ys27 => some (x26 :: ys27)).bind fun ys28 => some (w_0 :: ys28)).bind fun ds29 => callN T hd.G k "_law_mix" ds29).bind fun x30 => some ([x30, (PyData.bool true)])).bind fun ds31 => cond (decide (ds31.length ≤ few)) (some (PyData.tuple ds31)) none).bind fun x32 => some ([x32])).bind fun ys33 => some (x20 :: ys33)).bind fun ys35 => some (x34 :: ys35)).bind fun ds36 => callN T hd.G k "make" ds36).bind fun x37 => some ([x37])).bind fun ys39 => some (x38 :: ys39)).bind fun ds40 => callN T hd.G k "compose" ds40).bind fun x41 => some (Fl.next [Sl.sh w_0, Sl.sh w_1, Sl.sh w_2, Sl.sh x41, Sl.sh x20, Sl.sh v_x, Sl.sh x20, Sl.un]) := bodyK.trans (by kernel_rfl)
theorem r__law_made_up_1a (k : Nat) (w_0 : D) (w_1 : D) (w_2 : D) (s_3 : Sl) (s_4 : Sl) (s_5 : Sl) (s_6 : Sl) : exsK ⟨f__law_made_up.N, hd.G, callN T hd.G k⟩ 58 [Sl.sh w_0, Sl.sh w_1, Sl.sh w_2, s_3, s_4, s_5, s_6, Sl.un] (f__law_made_up.body.drop 2) endK =
    (((rd false (Sl.share s_3)).bind fun x60 => ((((rd false (Sl.share s_4)).bind fun x56 => ((((((((binD .Add w_1 (PyData.int 5)).bind fun x48 => (((callN T hd.G k "_law_mix" [w_0, (PyData.int 7), (PyData.int 2)]).bind fun x46 => ixD (PyData.list [(PyData.int 3), (PyData.int 900)]) x46).bind fun x47 => some ([x47])).bind fun ys49 => some (x48 :: ys49)).bind fun ys50 => some (w_0 :: ys50)).bind fun ds51 => callN T hd.G k "_law_mix" ds51).bind fun x52 => some ([x52, (PyData.bool true)])).bind fun ds53 => cond (decide (ds53.length ≤ few)) (some (PyData.tuple ds53)) none).bind fun x54 => some ([x54])).bind fun ys55 => some ((PyData.tuple [(PyData.str "?")]) :: ys55)).bind fun ys57 => some (x56 :: ys57)).bind fun ds58 => callN T hd.G k "make" ds58).bind fun x59 => some ([x59])).bind fun ys61 => some (x60 :: ys61)).bind fun ds62 => callN T hd.G k "compose" ds62).bind fun x63 => (((((((ixD w_2 (PyData.int (-1))).bind fun x75 => (((((((binD .Add w_1 (PyData.int 6)).bind fun x68 => (((callN T hd.G k "_law_mix" [w_0, (PyData.int 7), (PyData.int 2)]).bind fun x66 => ixD (PyData.list [(PyData.int 3), (PyData.int 900)]) x66).bind fun x67 => some ([x67])).bind fun ys69 => some (x68 :: ys69)).bind fun ys70 => some (w_0 :: ys70)).bind fun ds71 => callN T hd.G k "_law_mix" ds71).bind fun x72 => some ([x72, (PyData.bool true)])).bind fun ds73 => cond (decide (ds73.length ≤ few)) (some (PyData.tuple ds73)) none).bind fun x74 => some ([x74])).bind fun ys76 => some (x75 :: ys76)).bind fun ys77 => some ((PyData.tuple [(PyData.str "?")]) :: ys77)).bind fun ds78 => callN T hd.G k "make" ds78).bind fun x79 => some ([x79])).bind fun ys80 => some (x63 :: ys80)).bind fun ds81 => callN T hd.G k "compose" ds81).bind fun x82 => some x82 := by kernel_rfl
theorem r_law (k : Nat) (v_script : D) : callN T hd.G (k + 1) "law" [v_script] =
    (callN T hd.G k "_law_draws" [v_script]).bind fun x3 => ((callN T hd.G k "_law_type" [x3, (PyData.int 10), (PyData.int 3), (PyData.list [(PyData.str "pair"), (PyData.str "list"), (PyData.str "pair")])]).bind fun x8 => some ([x8])).bind fun ds9 => cond (decide (ds9.length ≤ few)) (((rng1 (PyData.int 3)).bind fun xs12 => forL (fun σ x => asg f_law.N σ (forT (stAt f_law.body 3)) x) (fun σ => exs ⟨f_law.N, hd.G, callN T hd.G k⟩ 55 σ (forB (stAt f_law.body 3))) xs12 [Sl.sh v_script, Sl.sh x3, Sl.sh (PyData.list [(PyData.str "pair"), (PyData.str "list"), (PyData.str "pair")]), Sl.ow ds9, Sl.un, Sl.un, Sl.un, Sl.un, Sl.un, Sl.un, Sl.un, Sl.un, Sl.un, Sl.un, Sl.un, Sl.un, Sl.un, Sl.un]).bind (fun fl11 => match fl11 with | .next σ10 => exsK ⟨f_law.N, hd.G, callN T hd.G k⟩ 56 σ10 (f_law.body.drop 4) endK | fl11 => endK fl11)) none := (callK (d := f_law) (by kernel_rfl) rfl rfl).trans (by kernel_rfl)
theorem r_law_3g (z_0 z_1 z_2 z_3 z_4 z_5 z_6 z_7 z_8 z_9 z_10 z_11 z_12 z_13 z_14 z_15 z_16 z_17 : Sl) (v_x : D) : asg f_law.N [z_0, z_1, z_2, z_3, z_4, z_5, z_6, z_7, z_8, z_9, z_10, z_11, z_12, z_13, z_14, z_15, z_16, z_17] (forT (stAt f_law.body 3)) v_x =
    some [z_0, z_1, z_2, z_3, Sl.sh v_x, z_5, z_6, z_7, z_8, z_9, z_10, z_11, z_12, z_13, z_14, z_15, z_16, z_17] := by kernel_rfl
theorem r_law_3b (k : Nat) (w_0 : D) (w_1 : D) (w_2 : D) (l_3 : List D) (v_x : D) : exs ⟨f_law.N, hd.G, callN T hd.G k⟩ 55 [Sl.sh w_0, Sl.sh w_1, Sl.sh w_2, Sl.ow l_3, Sl.sh v_x, Sl.un, Sl.un, Sl.un, Sl.un, Sl.un, Sl.un, Sl.un, Sl.un, Sl.un, Sl.un, Sl.un, Sl.un, Sl.un] (forB (stAt f_law.body 3)) =
    (((((binD .Mult (PyData.int 300) v_x).bind fun x15 => binD .Add (PyData.int 100) x15).bind fun x17 => ((ixD (PyData.list l_3) (PyData.int (-1))).bind fun x16 => some ([x16, (PyData.int 3), w_2])).bind fun ys18 => some (x17 :: ys18)).bind fun ys19 => some (w_1 :: ys19)).bind fun ds20 => callN T hd.G k "_law_next" ds20).bind fun x21 => cond (decide ((l_3).length < few)) (some (Fl.next [Sl.sh w_0, Sl.sh w_1, Sl.sh w_2, Sl.ow (l_3 ++ [x21]), Sl.sh v_x, Sl.un, Sl.un, Sl.un, Sl.un, Sl.un, Sl.un, Sl.un, Sl.un, Sl.un, Sl.un, Sl.un, Sl.un, Sl.un])) none := bodyK.trans (by kernel_rfl)
theorem r_law_3a (k : Nat) (w_0 : D) (w_1 : D) (w_2 : D) (l_3 : List D) (s_4 : Sl) : exsK ⟨f_law.N, hd.G, callN T hd.G k⟩ 56 [Sl.sh w_0, Sl.sh w_1, Sl.sh w_2, Sl.ow l_3, s_4, Sl.un, Sl.un, Sl.un, Sl.un, Sl.un, Sl.un, Sl.un, Sl.un, Sl.un, Sl.un, Sl.un, Sl.un, Sl.un] (f_law.body.drop 4) endK =
    (rng1 (PyData.int 3)).bind fun xs24 => (compM (fun x26 => (((ixD (PyData.list l_3) x26).bind fun x42 => (((binD .Add x26 (PyData.int 1)).bind fun x27 => ixD (PyData.list l_3) x27).bind fun x40 => (((((((binD .Add (PyData.int 1) x26).bind fun x28 => some ([x28, (PyData.int 9)])).bind fun ys29 => some (w_1 :: ys29)).bind fun ds30 => callN T hd.G k "_law_mix" ds30).bind fun x36 => ((((((binD .Add (PyData.int 4) x26).bind fun x31 => some ([x31, (PyData.int 2)])).bind fun ys32 => some (w_1 :: ys32)).bind fun ds33 => callN T hd.G k "_law_mix" ds33).bind fun x34 => (cmpD .Eq x34 (PyData.int 0)).map PyData.bool).bind fun x35 => some ([x35])).bind fun ys37 => some (x36 :: ys37)).bind fun ds38 => cond (decide (ds38.length ≤ few)) (some (PyData.tuple ds38)) none).bind fun x39 => some ([x39])).bind fun ys41 => some (x40 :: ys41)).bind fun ys43 => some (x42 :: ys43)).bind fun ds44 => callN T hd.G k "make" ds44).bind fun x45 => some (some x45)) xs24).bind fun ys25 => cond (decide (ys25.length ≤ few)) (((rng1 (PyData.int 4)).bind fun xs48 => forL (fun σ x => asg f_law.N σ (forT (stAt f_law.body 5)) x) (fun σ => exs ⟨f_law.N, hd.G, callN T hd.G k⟩ 53 σ (forB (stAt f_law.body 5))) xs48 [Sl.sh w_0, Sl.sh w_1, Sl.sh w_2, Sl.ow l_3, s_4, Sl.ow ys25, Sl.un, Sl.un, Sl.un, Sl.un, Sl.un, Sl.un, Sl.un, Sl.un, Sl.un, Sl.un, Sl.un, Sl.un]).bind (fun fl47 => match fl47 with | .next σ46 => exsK ⟨f_law.N, hd.G, callN T hd.G k⟩ 54 σ46 (f_law.body.drop 6) endK | fl47 => endK fl47)) none := by kernel_rfl
theorem r_law_5g (z_0 z_1 z_2 z_3 z_4 z_5 z_6 z_7 z_8 z_9 z_10 z_11 z_12 z_13 z_14 z_15 z_16 z_17 : Sl) (v_x : D) : asg f_law.N [z_0, z_1, z_2, z_3, z_4, z_5, z_6, z_7, z_8, z_9, z_10, z_11, z_12, z_13, z_14, z_15, z_16, z_17] (forT (stAt f_law.body 5)) v_x =
    some [z_0, z_1, z_2, z_3, Sl.sh v_x, z_5, z_6, z_7, z_8, z_9, z_10, z_11, z_12, z_13, z_14, z_15, z_16, z_17] := by kernel_rfl
theorem r_law_5b (k : Nat) (w_0 : D) (w_1 : D) (w_2 : D) (l_3 : List D) (l_5 : List D) (s_6 : Sl) (s_7 : Sl) (s_8 : Sl) (s_9 : Sl) (s_10 : Sl) (s_11 : Sl) (v_x : D) : exs ⟨f_law.N, hd.G, callN T hd.G k⟩ 53 [Sl.sh w_0, Sl.sh w_1, Sl.sh w_2, Sl.ow l_3, Sl.sh v_x, Sl.ow l_5, s_6, s_7, s_8, s_9, s_10, s_11, Sl.un, Sl.un, Sl.un, Sl.un, Sl.un, Sl.un] (forB (stAt f_law.body 5)) =
    (((((binD .Mult (PyData.int 90) v_x).bind fun x51 => binD .Add (PyData.int 2000) x51).bind fun x53 => ((ixD (PyData.list l_3) (PyData.int 0)).bind fun x52 => some ([x52, (PyData.int 2)])).bind fun ys54 => some (x53 :: ys54)).bind fun ys55 => some (w_1 :: ys55)).bind fun ds56 => callN T hd.G k "_law_value" ds56).bind fun x57 => (ixD (PyData.list l_5) (PyData.int 0)).bind fun x60 => (((ixD (PyData.list l_5) (PyData.int 0)).bind fun x61 => some ([x61, x57])).bind fun ds62 => callN T hd.G k "_law_seen" ds62).bind fun x63 => (((((((ixD (PyData.list l_5) (PyData.int 0)).bind fun x78 => some ([x78, x57])).bind fun ds79 => callN T hd.G k "applied" ds79).bind fun x80 => some ([x80])).bind fun ds81 => bD .repr ds81).bind fun x82 => (bD .repr [x63]).bind fun x83 => cmpD .NotEq x82 x83).bind fun k72 => cond k72 (some true) ((((((ixD (PyData.list l_3) (PyData.int 0)).bind fun x73 => some ([x73])).bind fun ds74 => callN T hd.G k "identity" ds74).bind fun x75 => some ([x75, x57])).bind fun ds76 => callN T hd.G k "applied" ds76).bind fun x77 => cmpD .NotEq x77 x57)).bind fun k66 => cond k66 (some (Fl.ret (PyData.bool false))) (((rng2 (PyData.int 1) (PyData.int 3)).bind fun xs71 => forL (fun σ x => asg f_law.N σ (forT (stAt (forB (stAt f_law.body 5)) 3)) x) (fun σ => exs ⟨f_law.N, hd.G, callN T hd.G k⟩ 48 σ (forB (stAt (forB (stAt f_law.body 5)) 3))) xs71 [Sl.sh w_0, Sl.sh w_1, Sl.sh w_2, Sl.ow l_3, Sl.sh v_x, Sl.ow l_5, Sl.sh x57, Sl.sh x60, Sl.sh x63, s_9, s_10, s_11, Sl.un, Sl.un, Sl.un, Sl.un, Sl.un, Sl.un]).bind (fun fl70 => match fl70 with | .next σ69 => exsK ⟨f_law.N, hd.G, callN T hd.G k⟩ 49 σ69 ((forB (stAt f_law.body 5)).drop 4) some | fl70 => some fl70)) := bodyK.trans (by kernel_rfl)
theorem r_law_5b3g (z_0 z_1 z_2 z_3 z_4 z_5 z_6 z_7 z_8 z_9 z_10 z_11 z_12 z_13 z_14 z_15 z_16 z_17 : Sl) (v_x : D) : asg f_law.N [z_0, z_1, z_2, z_3, z_4, z_5, z_6, z_7, z_8, z_9, z_10, z_11, z_12, z_13, z_14, z_15, z_16, z_17] (forT (stAt (forB (stAt f_law.body 5)) 3)) v_x =
    some [z_0, z_1, z_2, z_3, z_4, z_5, z_6, z_7, z_8, Sl.sh v_x, z_10, z_11, z_12, z_13, z_14, z_15, z_16, z_17] := by kernel_rfl
theorem r_law_5b3b (k : Nat) (w_0 : D) (w_1 : D) (w_2 : D) (l_3 : List D) (w_4 : D) (l_5 : List D) (w_6 : D) (s_7 : Sl) (s_8 : Sl) (s_10 : Sl) (s_11 : Sl) (v_x : D) : exs ⟨f_law.N, hd.G, callN T hd.G k⟩ 48 [Sl.sh w_0, Sl.sh w_1, Sl.sh w_2, Sl.ow l_3, Sl.sh w_4, Sl.ow l_5, Sl.sh w_6, s_7, s_8, Sl.sh v_x, s_10, s_11, Sl.un, Sl.un, Sl.un, Sl.un, Sl.un, Sl.un] (forB (stAt (forB (stAt f_law.body 5)) 3)) =
    (((rd false (Sl.share s_7)).bind fun x86 => some ([x86, w_6])).bind fun ds87 => callN T hd.G k "applied" ds87).bind fun x88 => (((rd false (Sl.share (Sl.share s_7))).bind fun x92 => ((ixD (PyData.list l_5) v_x).bind fun x91 => some ([x91])).bind fun ys93 => some (x92 :: ys93)).bind fun ds94 => callN T hd.G k "compose" ds94).bind fun x95 => (((ixD (PyData.list l_5) v_x).bind fun x97 => ((rd false (Sl.share s_8)).bind fun x96 => some ([x96])).bind fun ys98 => some (x97 :: ys98)).bind fun ds99 => callN T hd.G k "_law_seen" ds99).bind fun x100 => (((callN T hd.G k "applied" [x95, w_6]).bind fun x110 => cmpD .NotEq x110 x100).bind fun k106 => cond k106 (some true) ((((ixD (PyData.list l_5) v_x).bind fun x107 => some ([x107, x88])).bind fun ds108 => callN T hd.G k "applied" ds108).bind fun x109 => cmpD .NotEq x109 x100)).bind fun k103 => cond k103 (some (Fl.ret (PyData.bool false))) (some (Fl.next [Sl.sh w_0, Sl.sh w_1, Sl.sh w_2, Sl.ow l_3, Sl.sh w_4, Sl.ow l_5, Sl.sh w_6, Sl.sh x95, Sl.sh x100, Sl.sh v_x, Sl.sh x88, s_11, Sl.un, Sl.un, Sl.un, Sl.un, Sl.un, Sl.un])) := bodyK.trans (by kernel_rfl)
theorem r_law_5b3a (k : Nat) (w_0 : D) (w_1 : D) (w_2 : D) (l_3 : List D) (w_4 : D) (l_5 : List D) (w_6 : D) (s_7 : Sl) (s_8 : Sl) (s_9 : Sl) (s_10 : Sl) (s_11 : Sl) : exsK ⟨f_law.N, hd.G, callN T hd.G k⟩ 49 [Sl.sh w_0, Sl.sh w_1, Sl.sh w_2, Sl.ow l_3, Sl.sh w_4, Sl.ow l_5, Sl.sh w_6, s_7, s_8, s_9, s_10, s_11, Sl.un, Sl.un, Sl.un, Sl.un, Sl.un, Sl.un] ((forB (stAt f_law.body 5)).drop 4) some =
    (((ixD (PyData.list l_3) (PyData.int 0)).bind fun x113 => some ([x113, (PyData.tuple [(PyData.str "?")]), (PyData.tuple [(PyData.int 7), (PyData.bool true)])])).bind fun ds114 => callN T hd.G k "make" ds114).bind fun x115 => (((((((ixD (PyData.list l_3) (PyData.int 0)).bind fun x121 => some ([x121, (PyData.tuple [(PyData.int 8), (PyData.bool true)])])).bind fun ys122 => some ((PyData.tuple [(PyData.str "?")]) :: ys122)).bind fun ds123 => callN T hd.G k "make" ds123).bind fun x125 => ((callN T hd.G k "applied" [x115, w_6]).bind fun x124 => some ([x124])).bind fun ys126 => some (x125 :: ys126)).bind fun ds127 => callN T hd.G k "applied" ds127).bind fun x128 => cmpD .NotEq x128 w_6).bind fun k118 => cond k118 (some (Fl.ret (PyData.bool false))) (some (Fl.next [Sl.sh w_0, Sl.sh w_1, Sl.sh w_2, Sl.ow l_3, Sl.sh w_4, Sl.ow l_5, Sl.sh w_6, s_7, s_8, s_9, s_10, Sl.sh x115, Sl.un, Sl.un, Sl.un, Sl.un, Sl.un, Sl.un])) := by kernel_rfl
theorem r_law_5a (k : Nat) (w_0 : D) (w_1 : D) (w_2 : D) (l_3 : List D) (s_4 : Sl) (l_5 : List D) (s_6 : Sl) (s_7 : Sl) (s_8 : Sl) (s_9 : Sl) (s_10 : Sl) (s_11 : Sl) : exsK ⟨f_law.N, hd.G, callN T hd.G k⟩ 54 [Sl.sh w_0, Sl.sh w_1, Sl.sh w_2, Sl.ow l_3, s_4, Sl.ow l_5, s_6, s_7, s_8, s_9, s_10, s_11, Sl.un, Sl.un, Sl.un, Sl.un, Sl.un, Sl.un] (f_law.body.drop 6) endK =
    ((rng1 (PyData.int 2)).bind fun xs133 => lim (compM (fun x134 => (((((binD .Mult (PyData.int 50) x134).bind fun x135 => binD .Add (PyData.int 3000) x135).bind fun x136 => some ([x136, (PyData.list l_3)])).bind fun ys137 => some (w_1 :: ys137)).bind fun ds138 => callN T hd.G k "_law_made_up" ds138).bind fun x139 => some (some x139)) xs133)).bind fun x140 => (asg f_law.N [Sl.sh w_0, Sl.sh w_1, Sl.sh w_2, Sl.sh (PyData.list l_3), s_4, Sl.ow l_5, s_6, s_7, s_8, s_9, s_10, s_11, Sl.un, Sl.un, Sl.un, Sl.un, Sl.un, Sl.un] (asgT (stAt f_law.body 6)) x140).bind fun σ131 => (fun fl130 => match fl130 with | .next σ129 => exsK ⟨f_law.N, hd.G, callN T hd.G k⟩ 53 σ129 (f_law.body.drop 7) endK | fl130 => endK fl130) (Fl.next σ131) := by kernel_rfl
theorem r_law_6c (k : Nat) (w_0 : D) (w_1 : D) (w_2 : D) (w_3 : D) (s_4 : Sl) (l_5 : List D) (s_6 : Sl) (s_7 : Sl) (s_8 : Sl) (s_9 : Sl) (s_10 : Sl) (s_11 : Sl) (u_one : D) (u_two : D) : exsK ⟨f_law.N, hd.G, callN T hd.G k⟩ 53 [Sl.sh w_0, Sl.sh w_1, Sl.sh w_2, Sl.sh w_3, s_4, Sl.ow l_5, s_6, s_7, s_8, s_9, s_10, s_11, Sl.sh u_one, Sl.sh u_two, Sl.un, Sl.un, Sl.un, Sl.un] (f_law.body.drop 7) endK =
    (((callN T hd.G k "height" [u_one]).bind fun x144 => ((callN T hd.G k "height" [u_two]).bind fun x143 => some ([x143])).bind fun ys145 => some (x144 :: ys145)).bind fun ds146 => bD .max ds146).bind fun x147 => ((callN T hd.G k "_law_bare" [u_one]).bind fun x150 => (callN T hd.G k "_law_bare" [u_two]).bind fun x151 => (cmpD .Eq x150 x151).map PyData.bool).bind fun x152 => ((((callN T hd.G k "alike" [u_one, u_two]).bind fun x206 => some ([x206])).bind fun ds207 => bD .repr ds207).bind fun x208 => (bD .repr [x152]).bind fun x209 => cmpD .NotEq x208 x209).bind fun k155 => cond k155 (some (PyData.bool false)) (((cmpD .Lt x147 (PyData.int 5)).bind fun k192 => cond k192 ((((((callN T hd.G k "_law_labels" [u_one]).bind fun x195 => ((callN T hd.G k "_law_labels" [u_two]).bind fun x194 => some ([x194])).bind fun ys196 => some (x195 :: ys196)).bind fun ds197 => cond (decide (ds197.length ≤ few)) (some (PyData.list ds197)) none).bind fun x198 => items x198).bind fun xs199 => lim (compM (fun x200 => (((lsetD [x200]).bind fun x203 => (bD .len [x200]).bind fun x204 => cmpD .Lt x203 x204).bind fun b201 => cond b201 (some true) (some false)).bind fun b202 => cond b202 (some (some x200)) (some none)) xs199)).bind fun x205 => cmpD .Eq x205 (PyData.list [])) (some false)).bind fun k160 => cond k160 ((((((((ixD w_3 (PyData.int 0)).bind fun x174 => some ([x174, x147])).bind fun ds175 => callN T hd.G k "probes" ds175).bind fun x176 => items x176).bind fun xs177 => lim (compM (fun x178 => (((callN T hd.G k "applied" [u_one, x178]).bind fun x181 => (callN T hd.G k "applied" [u_two, x178]).bind fun x182 => cmpD .NotEq x181 x182).bind fun b179 => cond b179 (some true) (some false)).bind fun b180 => cond b180 (some (some x178)) (some none)) xs177)).bind fun x183 => (cmpD .Eq x183 (PyData.list [])).map PyData.bool).bind fun x184 => cmpD .NotEq x152 x184).bind fun k163 => cond k163 (some (PyData.bool false)) ((((callN T hd.G k "probes" [(PyData.tuple [(PyData.str "list"), (PyData.tuple [(PyData.str "int")])]), (PyData.int 1)]).bind fun x169 => (cmpD .Eq x169 (PyData.list [(PyData.tuple [(PyData.str "list"), (PyData.tuple [(PyData.str "int"), (PyData.int 0)])])])).map PyData.bool).bind fun x170 => (truD x170).bind fun k168 => cond k168 ((callN T hd.G k "applied" [(PyData.tuple [(PyData.str "from"), (PyData.str "int"), (PyData.tuple [(PyData.int 3), (PyData.bool true)]), (PyData.tuple [(PyData.str "id"), (PyData.str "int")])]), (PyData.tuple [(PyData.str "tag"), (PyData.str "unit"), (PyData.tuple [(PyData.str "unit")])])]).bind fun x171 => (cmpD .Eq x171 (PyData.tuple [(PyData.str "blame"), (PyData.tuple [(PyData.int 3), (PyData.bool true)])])).map PyData.bool) (some x170)).bind fun x172 => some x172)) ((((callN T hd.G k "probes" [(PyData.tuple [(PyData.str "list"), (PyData.tuple [(PyData.str "int")])]), (PyData.int 1)]).bind fun x188 => (cmpD .Eq x188 (PyData.list [(PyData.tuple [(PyData.str "list"), (PyData.tuple [(PyData.str "int"), (PyData.int 0)])])])).map PyData.bool).bind fun x189 => (truD x189).bind fun k187 => cond k187 ((callN T hd.G k "applied" [(PyData.tuple [(PyData.str "from"), (PyData.str "int"), (PyData.tuple [(PyData.int 3), (PyData.bool true)]), (PyData.tuple [(PyData.str "id"), (PyData.str "int")])]), (PyData.tuple [(PyData.str "tag"), (PyData.str "unit"), (PyData.tuple [(PyData.str "unit")])])]).bind fun x190 => (cmpD .Eq x190 (PyData.tuple [(PyData.str "blame"), (PyData.tuple [(PyData.int 3), (PyData.bool true)])])).map PyData.bool) (some x189)).bind fun x191 => some x191)) := by kernel_rfl
theorem r_law_6g (z_0 z_1 z_2 z_3 z_4 z_5 z_6 z_7 z_8 z_9 z_10 z_11 z_12 z_13 z_14 z_15 z_16 z_17 : Sl) (u_0 u_1 : D) : asg f_law.N [z_0, z_1, z_2, z_3, z_4, z_5, z_6, z_7, z_8, z_9, z_10, z_11, z_12, z_13, z_14, z_15, z_16, z_17] (asgT (stAt f_law.body 6)) (PyData.list [u_0, u_1]) =
    some [z_0, z_1, z_2, z_3, z_4, z_5, z_6, z_7, z_8, z_9, z_10, z_11, Sl.sh u_0, Sl.sh u_1, z_14, z_15, z_16, z_17] := by kernel_rfl
end K11

namespace EV
open PySem L2
@[simp] theorem dle_str (n : Nat) (x : Str) : dle n (.str x) = true := by cases n <;> rfl
@[simp] theorem dle_int (n : Nat) (x : Int) : dle n (.int x) = true := by cases n <;> rfl
@[simp] theorem dle_bool (n : Nat) (x : Bool) : dle n (.bool x) = true := by cases n <;> rfl
@[simp] theorem dle_none (n : Nat) : dle n .none = true := by cases n <;> rfl
@[simp] theorem dle_tup (n : Nat) (xs : List D) : dle (n + 1) (.tuple xs) = dles n xs := rfl
@[simp] theorem dle_lst (n : Nat) (xs : List D) : dle (n + 1) (.list xs) = dles n xs := rfl
@[simp] theorem dles_nil (n : Nat) : dles n [] = true := by cases n <;> rfl
@[simp] theorem dles_cons (n : Nat) (x : D) (xs : List D) : dles n (x :: xs) = (dle n x && dles n xs) := by cases n <;> rfl
end EV
namespace K11
open PySem L2 EV
inductive H0 where | hole | int | bool | unit
  deriving DecidableEq
inductive H1 where | cell | list
  deriving DecidableEq
inductive H2 where | fn | pair
  deriving DecidableEq
inductive Ty where
  | t0 (h : H0) | t1 (h : H1) (a : Ty) | t2 (h : H2) (a b : Ty)
  deriving DecidableEq
def n0 : H0 → Str | .hole => "?" | .int => "int" | .bool => "bool" | .unit => "unit"
def n1 : H1 → Str | .cell => "cell" | .list => "list"
def n2 : H2 → Str | .fn => "fun" | .pair => "pair"
@[simp] theorem n00 (a b : H0) : (n0 a == n0 b) = decide (a = b) := by cases a <;> cases b <;> decide +kernel
@[simp] theorem n11 (a b : H1) : (n1 a == n1 b) = decide (a = b) := by cases a <;> cases b <;> decide +kernel
@[simp] theorem n22 (a b : H2) : (n2 a == n2 b) = decide (a = b) := by cases a <;> cases b <;> decide +kernel
@[simp] theorem n01 (a : H0) (b : H1) : (n0 a == n1 b) = false := by cases a <;> cases b <;> decide +kernel
@[simp] theorem n02 (a : H0) (b : H2) : (n0 a == n2 b) = false := by cases a <;> cases b <;> decide +kernel
@[simp] theorem n10 (a : H1) (b : H0) : (n1 a == n0 b) = false := by cases a <;> cases b <;> decide +kernel
@[simp] theorem n12 (a : H1) (b : H2) : (n1 a == n2 b) = false := by cases a <;> cases b <;> decide +kernel
@[simp] theorem n20 (a : H2) (b : H0) : (n2 a == n0 b) = false := by cases a <;> cases b <;> decide +kernel
@[simp] theorem n21 (a : H2) (b : H1) : (n2 a == n1 b) = false := by cases a <;> cases b <;> decide +kernel
def enc : Ty → D
  | .t0 h => .tuple [.str (n0 h)]
  | .t1 h a => .tuple [.str (n1 h), enc a]
  | .t2 h a b => .tuple [.str (n2 h), enc a, enc b]
def Ty.dp : Ty → Nat
  | .t0 _ => 1
  | .t1 _ a => a.dp + 1
  | .t2 _ a b => max a.dp b.dp + 1
def Ty.sz : Ty → Nat
  | .t0 _ => 1
  | .t1 _ a => 1 + a.sz
  | .t2 _ a b => 1 + (a.sz + b.sz)
abbrev hole : Ty := .t0 .hole
theorem hole_enc : (PyData.tuple [(PyData.str "?")]) = enc hole := rfl
theorem dle_enc : ∀ (t : Ty) (n : Nat), t.dp ≤ n → dle n (enc t) = true
  | .t0 _, n + 1, _ => by simp [enc]
  | .t1 _ a, n + 1, h => by
    simp only [Ty.dp] at h
    simp [enc, dle_enc a n (by omega)]
  | .t2 _ a b, n + 1, h => by
    simp only [Ty.dp] at h
    simp [enc, dle_enc a n (by omega), dle_enc b n (by omega)]
  | .t0 _, 0, h => by cases h
  | .t1 _ _, 0, h => by cases h
  | .t2 _ _ _, 0, h => by cases h
theorem eqv_enc : ∀ a b : Ty, PyData.eqv (enc a) (enc b) = decide (a = b)
  | .t0 a, .t0 b => by simp [enc, PyData.eqv, PyData.eqvAll, n00]
  | .t0 a, .t1 b _ => by simp [enc, PyData.eqv, PyData.eqvAll, n01]
  | .t0 a, .t2 b _ _ => by simp [enc, PyData.eqv, PyData.eqvAll, n02]
  | .t1 a _, .t0 b => by simp [enc, PyData.eqv, PyData.eqvAll, n10]
  | .t1 a x, .t1 b y => by simp [enc, PyData.eqv, PyData.eqvAll, n11, eqv_enc x y]
  | .t1 a _, .t2 b _ _ => by simp [enc, PyData.eqv, PyData.eqvAll, n12]
  | .t2 a _ _, .t0 b => by simp [enc, PyData.eqv, PyData.eqvAll, n20]
  | .t2 a _ _, .t1 b _ => by simp [enc, PyData.eqv, PyData.eqvAll, n21]
  | .t2 a x x', .t2 b y y' => by simp [enc, PyData.eqv, PyData.eqvAll, n22, eqv_enc x y, eqv_enc x' y']
/-- types that the evaluator can compare -/
def Ok (t : Ty) : Prop := t.dp ≤ 50
theorem eq_enc {a b : Ty} (ha : Ok a) (hb : Ok b) : cmpD .Eq (enc a) (enc b) = some (decide (a = b)) := by
  unfold Ok at ha hb
  show cond (dle 60 (enc a) && dle 60 (enc b)) _ none = _
  rw [dle_enc a 60 (by omega), dle_enc b 60 (by omega), eqv_enc]; rfl
theorem ne_enc {a b : Ty} (ha : Ok a) (hb : Ok b) : cmpD .NotEq (enc a) (enc b) = some (!decide (a = b)) := by
  show (eqD _ _).map _ = _
  have := eq_enc ha hb
  rw [show eqD (enc a) (enc b) = some (decide (a = b)) from this]; rfl
theorem in2_enc {h a b : Ty} (hh : Ok h) (ha : Ok a) (hb : Ok b) : cmpD .In (enc h) (.tuple [enc a, enc b]) = some (decide (a = h) || decide (b = h)) := by
  unfold Ok at hh ha hb
  show cond (dle 60 (enc h) && dle 60 (.tuple [enc a, enc b])) _ none = _
  simp [dle_enc h 60 (by omega), dle_enc a 59 (by omega), dle_enc b 59 (by omega), eqv_enc]
def hd0 : Ty → Str | .t0 h => n0 h | .t1 h _ => n1 h | .t2 h _ _ => n2 h
@[simp] theorem ix0 (t : Ty) : ixD (enc t) (.int 0) = some (.str (hd0 t)) := by cases t <;> rfl
@[simp] theorem ix11 (h : H1) (a : Ty) : ixD (enc (.t1 h a)) (.int 1) = some (enc a) := rfl
@[simp] theorem ix21 (h : H2) (a b : Ty) : ixD (enc (.t2 h a b)) (.int 1) = some (enc a) := rfl
@[simp] theorem ix22 (h : H2) (a b : Ty) : ixD (enc (.t2 h a b)) (.int 2) = some (enc b) := rfl
def rgs : Ty → List D | .t0 _ => [] | .t1 _ _ => [.int 1] | .t2 _ _ _ => [.int 1, .int 2]
@[simp] theorem rg (t : Ty) : ((bD .len [enc t]).bind fun x => rng2 (PyData.int 1) x) = some (rgs t) := by cases t <;> kernel_rfl
@[simp] theorem eq_str (x y : Str) : cmpD .Eq (.str x) (.str y) = some (x == y) := rfl
@[simp] theorem ne_str (x y : Str) : cmpD .NotEq (.str x) (.str y) = some (!(x == y)) := rfl
end K11

set_option maxHeartbeats 1000000
namespace EV
open PySem L2
theorem obs1 {α β : Type} (x : α) (f : α → Option β) : (some x).bind f = f x := eq_of_heq (heq_of_eq rfl)
theorem ct {α : Type} (x y : α) : cond true x y = x := eq_of_heq (heq_of_eq rfl)
theorem cf {α : Type} (x y : α) : cond false x y = y := eq_of_heq (heq_of_eq rfl)
end EV
namespace K11
open PySem L2 EV
inductive Hd7 where | int | bool | unit | fn | pair | cell | list
  deriving DecidableEq
inductive B0 where | int | bool | unit
  deriving DecidableEq
inductive G2 where | fn | pair | cell
  deriving DecidableEq
def B0.h : B0 → Hd7 | .int => .int | .bool => .bool | .unit => .unit
def G2.h : G2 → Hd7 | .fn => .fn | .pair => .pair | .cell => .cell
def n7 : Hd7 → Str | .int => "int" | .bool => "bool" | .unit => "unit" | .fn => "fun" | .pair => "pair" | .cell => "cell" | .list => "list"
structure Lab where
  n : Nat
  s : Bool
  deriving DecidableEq
def Lab.turn (l : Lab) : Lab := ⟨l.n, !l.s⟩
inductive Co where
  | any | base (b : B0) | two (g : G2) (c d : Co) | lst (c : Co) | frm (h : Hd7) (l : Lab) (c : Co) | to (c : Co) (h : Hd7) | fail (h : Hd7) (l : Lab) (h' : Hd7)
  deriving DecidableEq
def encL (l : Lab) : D := .tuple [.int (l.n : Int), .bool l.s]
def encC : Co → D
  | .any => .tuple [.str "id?"]
  | .base b => .tuple [.str "id", .str (n7 b.h)]
  | .two g c d => .tuple [.str (n7 g.h), encC c, encC d]
  | .lst c => .tuple [.str "list", encC c]
  | .frm h l c => .tuple [.str "from", .str (n7 h), encL l, encC c]
  | .to c h => .tuple [.str "to", encC c, .str (n7 h)]
  | .fail h l h' => .tuple [.str "fail", .str (n7 h), encL l, .str (n7 h')]
@[simp] theorem n77 (a b : Hd7) : (n7 a == n7 b) = decide (a = b) := by cases a <;> cases b <;> decide +kernel
def tg : Co → Str
  | .any => "id?" | .base _ => "id" | .two g _ _ => n7 g.h | .lst _ => "list" | .frm _ _ _ => "from" | .to _ _ => "to" | .fail _ _ _ => "fail"
@[simp] theorem ixc0 (c : Co) : ixD (encC c) (.int 0) = some (.str (tg c)) := by cases c <;> rfl
@[simp] theorem ixb1 (b : B0) : ixD (encC (.base b)) (.int 1) = some (.str (n7 b.h)) := rfl
@[simp] theorem ix2a (g : G2) (c d : Co) : ixD (encC (.two g c d)) (.int 1) = some (encC c) := rfl
@[simp] theorem ix2b (g : G2) (c d : Co) : ixD (encC (.two g c d)) (.int 2) = some (encC d) := rfl
@[simp] theorem ixl1 (c : Co) : ixD (encC (.lst c)) (.int 1) = some (encC c) := rfl
@[simp] theorem ixf1 (h : Hd7) (l : Lab) (c : Co) : ixD (encC (.frm h l c)) (.int 1) = some (.str (n7 h)) := rfl
@[simp] theorem ixf2 (h : Hd7) (l : Lab) (c : Co) : ixD (encC (.frm h l c)) (.int 2) = some (encL l) := rfl
@[simp] theorem ixf3 (h : Hd7) (l : Lab) (c : Co) : ixD (encC (.frm h l c)) (.int 3) = some (encC c) := rfl
@[simp] theorem ixt1 (c : Co) (h : Hd7) : ixD (encC (.to c h)) (.int 1) = some (encC c) := rfl
@[simp] theorem ixt2 (c : Co) (h : Hd7) : ixD (encC (.to c h)) (.int 2) = some (.str (n7 h)) := rfl
@[simp] theorem ixx1 (h h' : Hd7) (l : Lab) : ixD (encC (.fail h l h')) (.int 1) = some (.str (n7 h)) := rfl
@[simp] theorem ixx2 (h h' : Hd7) (l : Lab) : ixD (encC (.fail h l h')) (.int 2) = some (encL l) := rfl
@[simp] theorem ixx3 (h h' : Hd7) (l : Lab) : ixD (encC (.fail h l h')) (.int 3) = some (.str (n7 h')) := rfl
@[simp] theorem ixL0 (l : Lab) : ixD (encL l) (.int 0) = some (.int (l.n : Int)) := rfl
@[simp] theorem ixL1 (l : Lab) : ixD (encL l) (.int 1) = some (.bool l.s) := rfl
@[simp] theorem isiC (c : Co) : isTy .tuple (encC c) = some true := by cases c <;> rfl
@[simp] theorem isiL (l : Lab) : isTy .tuple (encL l) = some true := rfl
def ncs : Co → Nat | .any => 1 | .base _ => 2 | .two _ _ _ => 3 | .lst _ => 2 | .frm _ _ _ => 4 | .to _ _ => 3 | .fail _ _ _ => 4
@[simp] theorem lenC (c : Co) : bD .len [encC c] = some (.int (ncs c : Int)) := by cases c <;> rfl
@[simp] theorem lenL (l : Lab) : bD .len [encL l] = some (.int 2) := rfl
def dpC : Co → Nat
  | .any => 1 | .base _ => 1 | .two _ c d => max (dpC c) (dpC d) + 1 | .lst c => dpC c + 1 | .frm _ _ c => max (dpC c) 1 + 1 | .to c _ => dpC c + 1 | .fail _ _ _ => 2
theorem dpC1 : ∀ c, 1 ≤ dpC c
  | .any => Nat.le_refl _ | .base _ => Nat.le_refl _ | .two _ _ _ => Nat.succ_le_succ (Nat.zero_le _) | .lst _ => Nat.succ_le_succ (Nat.zero_le _) | .frm _ _ _ => Nat.succ_le_succ (Nat.zero_le _) | .to _ _ => Nat.succ_le_succ (Nat.zero_le _) | .fail _ _ _ => Nat.succ_le_succ (Nat.zero_le _)
theorem dleL (l : Lab) (n : Nat) : dle (n + 1) (encL l) = true := by simp [encL]
theorem dleC : ∀ (c : Co) (n : Nat), dpC c ≤ n → dle n (encC c) = true
  | c, 0, h => by have := dpC1 c; omega
  | .any, n + 1, _ => by simp [encC]
  | .base _, n + 1, _ => by simp [encC]
  | .two _ c d, n + 1, h => by
    simp only [dpC] at h
    simp [encC, dleC c n (by omega), dleC d n (by omega)]
  | .lst c, n + 1, h => by
    simp only [dpC] at h
    simp [encC, dleC c n (by omega)]
  | .frm _ l c, n + 1, h => by
    simp only [dpC] at h
    obtain ⟨m, rfl⟩ : ∃ m, n = m + 1 := ⟨n - 1, by omega⟩
    simp [encC, dleL, dleC c (m + 1) (by omega)]
  | .to c _, n + 1, h => by
    simp only [dpC] at h
    simp [encC, dleC c n (by omega)]
  | .fail _ l _, n + 1, h => by
    simp only [dpC] at h
    obtain ⟨m, rfl⟩ : ∃ m, n = m + 1 := ⟨n - 1, by omega⟩
    simp [encC, dleL]
theorem eqvL (a b : Lab) : PyData.eqv (encL a) (encL b) = decide (a = b) := by
  obtain ⟨n, s⟩ := a
  obtain ⟨m, t⟩ := b
  simp only [encL, PyData.eqv, PyData.eqvAll, Bool.and_true, Lab.mk.injEq]
  by_cases h : n = m
  · subst h
    cases s <;> cases t <;> simp
  · have : ((n : Int) == (m : Int)) = false := beq_eq_false_iff_ne.mpr (by omega)
    rw [this]
    simp [h]
@[simp] theorem s1 (h : Hd7) : (("id?" : Str) == n7 h) = false := by cases h <;> decide +kernel
@[simp] theorem s2 (h : Hd7) : (("id" : Str) == n7 h) = false := by cases h <;> decide +kernel
@[simp] theorem s3 (h : Hd7) : (("from" : Str) == n7 h) = false := by cases h <;> decide +kernel
@[simp] theorem s4 (h : Hd7) : (("to" : Str) == n7 h) = false := by cases h <;> decide +kernel
@[simp] theorem s5 (h : Hd7) : (("fail" : Str) == n7 h) = false := by cases h <;> decide +kernel
@[simp] theorem s1' (h : Hd7) : (n7 h == ("id?" : Str)) = false := by cases h <;> decide +kernel
@[simp] theorem s2' (h : Hd7) : (n7 h == ("id" : Str)) = false := by cases h <;> decide +kernel
@[simp] theorem s3' (h : Hd7) : (n7 h == ("from" : Str)) = false := by cases h <;> decide +kernel
@[simp] theorem s4' (h : Hd7) : (n7 h == ("to" : Str)) = false := by cases h <;> decide +kernel
@[simp] theorem s5' (h : Hd7) : (n7 h == ("fail" : Str)) = false := by cases h <;> decide +kernel
@[simp] theorem sl (g : G2) : (n7 g.h == ("list" : Str)) = false := by cases g <;> decide +kernel
@[simp] theorem sl' (g : G2) : (("list" : Str) == n7 g.h) = false := by cases g <;> decide +kernel
@[simp] theorem gh (a b : G2) : (a.h = b.h) = (a = b) := by cases a <;> cases b <;> simp [G2.h]
@[simp] theorem bh (a b : B0) : (a.h = b.h) = (a = b) := by cases a <;> cases b <;> simp [B0.h]
@[simp] theorem q01 : (("id?" : Str) == ("id" : Str)) = false := by decide +kernel
@[simp] theorem q02 : (("id?" : Str) == ("list" : Str)) = false := by decide +kernel
@[simp] theorem q03 : (("id?" : Str) == ("from" : Str)) = false := by decide +kernel
@[simp] theorem q04 : (("id?" : Str) == ("to" : Str)) = false := by decide +kernel
@[simp] theorem q05 : (("id?" : Str) == ("fail" : Str)) = false := by decide +kernel
@[simp] theorem q10 : (("id" : Str) == ("id?" : Str)) = false := by decide +kernel
@[simp] theorem q12 : (("id" : Str) == ("list" : Str)) = false := by decide +kernel
@[simp] theorem q13 : (("id" : Str) == ("from" : Str)) = false := by decide +kernel
@[simp] theorem q14 : (("id" : Str) == ("to" : Str)) = false := by decide +kernel
@[simp] theorem q15 : (("id" : Str) == ("fail" : Str)) = false := by decide +kernel
@[simp] theorem q20 : (("list" : Str) == ("id?" : Str)) = false := by decide +kernel
@[simp] theorem q21 : (("list" : Str) == ("id" : Str)) = false := by decide +kernel
@[simp] theorem q23 : (("list" : Str) == ("from" : Str)) = false := by decide +kernel
@[simp] theorem q24 : (("list" : Str) == ("to" : Str)) = false := by decide +kernel
@[simp] theorem q25 : (("list" : Str) == ("fail" : Str)) = false := by decide +kernel
@[simp] theorem q30 : (("from" : Str) == ("id?" : Str)) = false := by decide +kernel
@[simp] theorem q31 : (("from" : Str) == ("id" : Str)) = false := by decide +kernel
@[simp] theorem q32 : (("from" : Str) == ("list" : Str)) = false := by decide +kernel
@[simp] theorem q34 : (("from" : Str) == ("to" : Str)) = false := by decide +kernel
@[simp] theorem q35 : (("from" : Str) == ("fail" : Str)) = false := by decide +kernel
@[simp] theorem q40 : (("to" : Str) == ("id?" : Str)) = false := by decide +kernel
@[simp] theorem q41 : (("to" : Str) == ("id" : Str)) = false := by decide +kernel
@[simp] theorem q42 : (("to" : Str) == ("list" : Str)) = false := by decide +kernel
@[simp] theorem q43 : (("to" : Str) == ("from" : Str)) = false := by decide +kernel
@[simp] theorem q45 : (("to" : Str) == ("fail" : Str)) = false := by decide +kernel
@[simp] theorem q50 : (("fail" : Str) == ("id?" : Str)) = false := by decide +kernel
@[simp] theorem q51 : (("fail" : Str) == ("id" : Str)) = false := by decide +kernel
@[simp] theorem q52 : (("fail" : Str) == ("list" : Str)) = false := by decide +kernel
@[simp] theorem q53 : (("fail" : Str) == ("from" : Str)) = false := by decide +kernel
@[simp] theorem q54 : (("fail" : Str) == ("to" : Str)) = false := by decide +kernel
theorem v_tt (xs ys : List D) : PyData.eqv (.tuple xs) (.tuple ys) = PyData.eqvAll xs ys := by rw [PyData.eqv]
theorem v_ss (x y : Str) : PyData.eqv (.str x) (.str y) = (x == y) := by rw [PyData.eqv]
theorem v_cc (x y : D) (xs ys : List D) : PyData.eqvAll (x :: xs) (y :: ys) = (PyData.eqv x y && PyData.eqvAll xs ys) := by rw [PyData.eqvAll]
theorem v_nn : PyData.eqvAll [] [] = true := by rw [PyData.eqvAll]
theorem v_nc (y : D) (ys : List D) : PyData.eqvAll [] (y :: ys) = false := by simp [PyData.eqvAll]
theorem v_cn (y : D) (ys : List D) : PyData.eqvAll (y :: ys) [] = false := by simp [PyData.eqvAll]
theorem eqvC : ∀ a b : Co, PyData.eqv (encC a) (encC b) = decide (a = b) := by
  intro a
  induction a with
  | any => intro b; cases b <;> simp [encC, v_tt, v_ss, v_cc, v_nn, v_nc, v_cn]
  | base x => intro b; cases b <;> simp [encC, v_tt, v_ss, v_cc, v_nn, v_nc, v_cn]
  | two g c d ih1 ih2 => intro b; cases b <;> simp [encC, v_tt, v_ss, v_cc, v_nn, v_nc, v_cn, ih1, ih2]
  | lst c ih => intro b; cases b <;> simp [encC, v_tt, v_ss, v_cc, v_nn, v_nc, v_cn, ih]
  | frm h l c ih => intro b; cases b <;> simp [encC, v_tt, v_ss, v_cc, v_nn, v_nc, v_cn, ih, eqvL]
  | to c h ih => intro b; cases b <;> simp [encC, v_tt, v_ss, v_cc, v_nn, v_nc, v_cn, ih]
  | fail h l h' => intro b; cases b <;> simp [encC, v_tt, v_ss, v_cc, v_nn, v_nc, v_cn, eqvL]
def OkC (c : Co) : Prop := dpC c ≤ 50
theorem eqC {a b : Co} (ha : OkC a) (hb : OkC b) : cmpD .Eq (encC a) (encC b) = some (decide (a = b)) := by
  unfold OkC at ha hb
  show cond (dle 60 (encC a) && dle 60 (encC b)) _ none = _
  rw [dleC a 60 (by omega), dleC b 60 (by omega), eqvC]; rfl
theorem neC {a b : Co} (ha : OkC a) (hb : OkC b) : cmpD .NotEq (encC a) (encC b) = some (!decide (a = b)) := by
  show (eqD _ _).map _ = _
  rw [show eqD (encC a) (encC b) = some (decide (a = b)) from eqC ha hb]; rfl
theorem any_enc : (PyData.tuple [(PyData.str "id?")]) = encC .any := rfl
theorem OkC.any : OkC .any := by show (1 : Nat) ≤ 50; decide
theorem eqAny {a : Co} (ha : OkC a) : cmpD .Eq (encC a) (PyData.tuple [(PyData.str "id?")]) = some (decide (a = .any)) := eqC ha OkC.any
theorem OkC.l {g : G2} {c d : Co} (o : OkC (.two g c d)) : OkC c := by unfold OkC at *; simp only [dpC] at o; omega
theorem OkC.r {g : G2} {c d : Co} (o : OkC (.two g c d)) : OkC d := by unfold OkC at *; simp only [dpC] at o; omega
theorem OkC.i {c : Co} (o : OkC (.lst c)) : OkC c := by unfold OkC at *; simp only [dpC] at o; omega
theorem OkC.f {h : Hd7} {l : Lab} {c : Co} (o : OkC (.frm h l c)) : OkC c := by unfold OkC at *; simp only [dpC] at o; omega
theorem OkC.t {h : Hd7} {c : Co} (o : OkC (.to c h)) : OkC c := by unfold OkC at *; simp only [dpC] at o; omega
end K11

set_option maxHeartbeats 2000000
namespace K11
open PySem L2 EV
def src : Co → Hd7
  | .any => .int | .base b => b.h | .two g _ _ => g.h | .lst _ => .list | .frm h _ _ => h | .to c _ => src c | .fail h _ _ => h
def isPl : Co → Bool
  | .base _ => true | .two _ _ _ => true | .lst _ => true | _ => false
def isMi : Co → Bool
  | .any => false | .frm _ _ _ => false | _ => true
def B0.t : B0 → Ty | .int => .t0 .int | .bool => .t0 .bool | .unit => .t0 .unit
def headT : Ty → Option Hd7
  | .t0 .hole => none | .t0 .int => some .int | .t0 .bool => some .bool | .t0 .unit => some .unit
  | .t1 .cell _ => some .cell | .t1 .list _ => some .list | .t2 .fn _ _ => some .fn | .t2 .pair _ _ => some .pair
def wide : Hd7 → Ty
  | .int => .t0 .int | .bool => .t0 .bool | .unit => .t0 .unit | .fn => .t2 .fn hole hole | .pair => .t2 .pair hole hole | .cell => .t1 .cell hole | .list => .t1 .list hole
/-- well formed, and from A to B -/
def W : Co → Ty → Ty → Prop
  | .any, A, B => A = hole ∧ B = hole
  | .base b, A, B => A = b.t ∧ B = b.t
  | .two .fn c d, A, B => ∃ A1 A2 B1 B2, A = .t2 .fn A1 A2 ∧ B = .t2 .fn B1 B2 ∧ W c B1 A1 ∧ W d A2 B2
  | .two .pair c d, A, B => ∃ A1 A2 B1 B2, A = .t2 .pair A1 A2 ∧ B = .t2 .pair B1 B2 ∧ W c A1 B1 ∧ W d A2 B2
  | .two .cell c d, A, B => ∃ a b, A = .t1 .cell a ∧ B = .t1 .cell b ∧ W c a b ∧ W d b a
  | .lst c, A, B => ∃ a b, A = .t1 .list a ∧ B = .t1 .list b ∧ W c a b
  | .frm h _ c, A, B => A = hole ∧ isMi c = true ∧ W c (wide h) B
  | .to c h, A, B => B = hole ∧ isPl c = true ∧ W c A (wide h)
  | .fail h _ h', A, _ => headT A = some h ∧ h ≠ h'
theorem headB (b : B0) : headT b.t = some b.h := by cases b <;> rfl
theorem headW (h : Hd7) : headT (wide h) = some h := by cases h <;> rfl
theorem pl_mi {c : Co} (h : isPl c = true) : isMi c = true := by cases c <;> first | rfl | cases h
theorem W.src_pl : ∀ {c : Co} {A B : Ty}, isPl c = true → W c A B → headT A = some (src c) ∧ headT B = some (src c)
  | .base b, A, B, _, ⟨h1, h2⟩ => by subst h1 h2; exact ⟨headB b, headB b⟩
  | .two .fn c d, A, B, _, ⟨_, _, _, _, h1, h2, _⟩ => by subst h1 h2; exact ⟨rfl, rfl⟩
  | .two .pair c d, A, B, _, ⟨_, _, _, _, h1, h2, _⟩ => by subst h1 h2; exact ⟨rfl, rfl⟩
  | .two .cell c d, A, B, _, ⟨_, _, h1, h2, _⟩ => by subst h1 h2; exact ⟨rfl, rfl⟩
  | .lst c, A, B, _, ⟨_, _, h1, h2, _⟩ => by subst h1 h2; exact ⟨rfl, rfl⟩
theorem W.src_mi : ∀ {c : Co} {A B : Ty}, isMi c = true → W c A B → headT A = some (src c)
  | .base b, A, B, _, h => (W.src_pl (c := .base b) rfl h).1
  | .two g c d, A, B, _, h => (W.src_pl (c := .two g c d) rfl h).1
  | .lst c, A, B, _, h => (W.src_pl (c := .lst c) rfl h).1
  | .to c h, A, B, _, ⟨_, h2, h3⟩ => (W.src_pl h2 h3).1
  | .fail h l h', A, B, _, ⟨h1, _⟩ => h1
@[simp] theorem bh3 (b : B0) : cmpD .In (.str (n7 b.h)) (.tuple [.str "int", .str "bool", .str "unit"]) = some true := by cases b <;> kernel_rfl
@[simp] theorem h7in (h : Hd7) : cmpD .In (.str (n7 h)) (.tuple [.str "int", .str "bool", .str "unit", .str "fun", .str "pair", .str "cell", .str "list"]) = some true := by cases h <;> kernel_rfl
abbrev PF : D := dictD [("fun", (PyData.int 2)), ("pair", (PyData.int 2)), ("cell", (PyData.int 2)), ("list", (PyData.int 1))]
@[simp] theorem pf2 (g : G2) : cmpD .In (.str (n7 g.h)) PF = some true := by cases g <;> kernel_rfl
@[simp] theorem pfl : cmpD .In (.str "list") PF = some true := by kernel_rfl
@[simp] theorem pf2' (g : G2) : ixD PF (.str (n7 g.h)) = some (.int 2) := by cases g <;> kernel_rfl
@[simp] theorem pfl' : ixD PF (.str "list") = some (.int 1) := by kernel_rfl
@[simp] theorem pfn0 : cmpD .In (.str "id?") PF = some false := by kernel_rfl
@[simp] theorem pfn1 : cmpD .In (.str "to") PF = some false := by kernel_rfl
@[simp] theorem pfn2 : cmpD .In (.str "from") PF = some false := by kernel_rfl
@[simp] theorem pfn3 : cmpD .In (.str "fail") PF = some false := by kernel_rfl
@[simp] theorem pfn4 : cmpD .In (.str "id") PF = some false := by kernel_rfl
@[simp] theorem sl2 (g : G2) (c d : Co) : slD (encC (.two g c d)) (some 1) none = some (.tuple [encC c, encC d]) := by kernel_rfl
@[simp] theorem sl1 (c : Co) : slD (encC (.lst c)) (some 1) none = some (.tuple [encC c]) := by kernel_rfl
@[simp] theorem itT (xs : List D) : items (.tuple xs) = some xs := rfl
@[simp] theorem itL (xs : List D) : items (.list xs) = some xs := rfl
@[simp] theorem lim1 (x : D) : lim (some [x]) = some (.list [x]) := rfl
@[simp] theorem lim0 : lim (some []) = some (.list []) := rfl
@[simp] theorem lim2 (x y : D) : lim (some [x, y]) = some (.list [x, y]) := rfl
@[simp] theorem all0 : bD .all [.list []] = some (.bool true) := rfl
@[simp] theorem all1 (x : Bool) : bD .all [.list [.bool x]] = some (.bool x) := by cases x <;> rfl
@[simp] theorem all2 (x y : Bool) : bD .all [.list [.bool x, .bool y]] = some (.bool (x && y)) := by cases x <;> cases y <;> rfl
@[simp] theorem few1 : decide (1 ≤ few) = true := by decide
@[simp] theorem few2 : decide (2 ≤ few) = true := by decide
@[simp] theorem few3 : decide (3 ≤ few) = true := by decide
@[simp] theorem few4 : decide (4 ≤ few) = true := by decide
@[simp] theorem few0 : decide (0 ≤ few) = true := by decide
@[simp] theorem tru_b (x : Bool) : truD (.bool x) = some x := rfl
@[simp] theorem eq_in (i j : Int) : cmpD .Eq (.int i) (.int j) = some (i == j) := rfl
@[simp] theorem lt_in (i j : Int) : cmpD .Lt (.int i) (.int j) = some (decide (i < j)) := rfl
@[simp] theorem ge_in (i j : Int) : cmpD .GtE (.int i) (.int j) = some (decide (j ≤ i)) := rfl
@[simp] theorem add_in (i j : Int) : binD .Add (.int i) (.int j) = some (.int (i + j)) := rfl
@[simp] theorem ty_ib (i : Int) : isTy .bool (.int i) = some false := rfl
@[simp] theorem ty_ii (i : Int) : isTy .int (.int i) = some true := rfl
@[simp] theorem ty_bb (i : Bool) : isTy .bool (.bool i) = some true := rfl
theorem ev_place (k : Nat) (n : Nat) : callN T hd.G (k + 1) "is_place" [.int (n : Int)] = some (.bool true) := by
  rw [r_is_place]; simp
theorem ev_label (k : Nat) (l : Lab) : callN T hd.G (k + 2) "is_label" [encL l] = some (.bool true) := by
  rw [r_is_label]; simp [ev_place]
theorem ev_turned (k : Nat) (l : Lab) : callN T hd.G (k + 1) "turned" [encL l] = some (encL l.turn) := by
  rw [r_turned]; obtain ⟨n, s⟩ := l; cases s <;> kernel_rfl
theorem ev_source : ∀ (c : Co) (k : Nat), isMi c = true → (∀ d h, c = .to d h → isPl d = true) → callN T hd.G (k + 2) "source" [encC c] = some (.str (n7 (src c)))
  | .base b, k, _, _ => by rw [r_source]; simp [tg, src]
  | .two g c d, k, _, _ => by rw [r_source]; simp [tg, src]
  | .lst c, k, _, _ => by rw [r_source]; simp [tg, src, n7]
  | .fail h l h', k, _, _ => by rw [r_source]; simp [tg, src]
  | .to c h, k, _, hp => by
    have hc := hp c h rfl
    rw [r_source]
    have : callN T hd.G (k + 1) "source" [encC c] = some (.str (n7 (src c))) := by
      rw [r_source]
      cases c with
      | lst c => simp [tg, src, n7]
      | base b => simp [tg, src]
      | two g c d => simp [tg, src]
      | any => cases hc
      | frm _ _ _ => cases hc
      | to _ _ => cases hc
      | fail _ _ _ => cases hc
    simp [tg, src, this]
@[simp] theorem ty_t (c : Co) : ((isTy .tuple (encC c)).map PyData.bool) = some (.bool true) := by cases c <;> rfl
def C1 (c : Co) : Prop := ∀ m, 3 * dpC c ≤ m → (isPl c = true → callN T hd.G m "is_plain" [encC c] = some (.bool true))
def C2 (c : Co) : Prop := ∀ m, 3 * dpC c + 1 ≤ m → (isMi c = true → callN T hd.G m "is_middle" [encC c] = some (.bool true))
def C3 (c : Co) : Prop := ∀ m, 3 * dpC c + 2 ≤ m → callN T hd.G m "is_coercion" [encC c] = some (.bool true)
theorem pl_two {g : G2} {c d : Co} (hc : C3 c) (hd' : C3 d) : C1 (.two g c d) := by
  intro m hm _
  simp only [dpC] at hm
  obtain ⟨m, rfl⟩ : ∃ j, m = j + 1 := ⟨m - 1, by omega⟩
  rw [r_is_plain]
  simp [tg, ncs, compM, hc m (by omega), hd' m (by omega)]
theorem pl_lst {c : Co} (hc : C3 c) : C1 (.lst c) := by
  intro m hm _
  simp only [dpC] at hm
  obtain ⟨m, rfl⟩ : ∃ j, m = j + 1 := ⟨m - 1, by omega⟩
  rw [r_is_plain]
  simp [tg, ncs, compM, hc m (by omega)]
theorem pl_base {b : B0} : C1 (.base b) := by
  intro m hm _
  simp only [dpC] at hm
  obtain ⟨m, rfl⟩ : ∃ j, m = j + 1 := ⟨m - 1, by omega⟩
  rw [r_is_plain]
  simp [tg, ncs]
theorem mi_pl {c : Co} (hp : isPl c = true) (h : C1 c) : C2 c := by
  intro m hm _
  obtain ⟨m, rfl⟩ : ∃ j, m = j + 1 := ⟨m - 1, by omega⟩
  have := h m (by omega) hp
  rw [r_is_middle]
  cases c <;> first | (cases hp; done) | simp [tg, ncs, this]
theorem mi_to {c : Co} {h : Hd7} (hp : isPl c = true) (hs : src c = h) (h1 : C1 c) : C2 (.to c h) := by
  intro m hm _
  simp only [dpC] at hm
  obtain ⟨m, rfl⟩ : ∃ j, m = j + 1 := ⟨m - 1, by omega⟩
  have := h1 m (by omega) hp
  obtain ⟨j, rfl⟩ : ∃ j, m = j + 2 := ⟨m - 2, by omega⟩
  have s := ev_source c j (pl_mi hp) (by intro d h e; subst e; cases hp)
  rw [r_is_middle]
  simp [tg, ncs, this, s, hs]
theorem mi_fail {h h' : Hd7} {l : Lab} (ne : h ≠ h') : C2 (.fail h l h') := by
  intro m hm _
  simp only [dpC] at hm
  obtain ⟨m, rfl⟩ : ∃ j, m = j + 3 := ⟨m - 3, by omega⟩
  rw [r_is_middle]
  have := ev_label m l
  simp [tg, ncs, this, ne]
theorem co_mi {c : Co} (o : OkC c) (hm : isMi c = true) (h : C2 c) : C3 c := by
  intro m hk
  obtain ⟨m, rfl⟩ : ∃ j, m = j + 1 := ⟨m - 1, by omega⟩
  have := h m (by omega) hm
  rw [r_is_coercion, eqAny o]
  cases c <;> first | (cases hm; done) | simp [tg, ncs, this]
theorem co_frm {h : Hd7} {l : Lab} {c : Co} (o : OkC (.frm h l c)) (hm : isMi c = true) (hs : src c = h) (ht : ∀ d h, c = .to d h → isPl d = true) (h2 : C2 c) : C3 (.frm h l c) := by
  intro m hk
  simp only [dpC] at hk
  obtain ⟨m, rfl⟩ : ∃ j, m = j + 1 := ⟨m - 1, by omega⟩
  have := h2 m (by omega) hm
  obtain ⟨j, rfl⟩ : ∃ j, m = j + 2 := ⟨m - 2, by omega⟩
  have s := ev_source c j hm ht
  have e := ev_label j l
  rw [r_is_coercion, eqAny o]
  simp [tg, ncs, this, s, hs, e]
theorem co_any : C3 .any := by
  intro m hk
  obtain ⟨m, rfl⟩ : ∃ j, m = j + 1 := ⟨m - 1, by omega⟩
  rw [r_is_coercion, eqAny OkC.any]
  simp
theorem W.to_pl {c : Co} {A B : Ty} (w : W c A B) : ∀ d h, c = .to d h → isPl d = true := by
  intro d h e; subst e; exact w.2.1
theorem x_pl {c : Co} (o : OkC c) (hp : isPl c = true) (h : C1 c) : C1 c ∧ C2 c ∧ C3 c := ⟨h, mi_pl hp h, co_mi o (pl_mi hp) (mi_pl hp h)⟩
theorem x_mi {c : Co} (o : OkC c) (hp : isPl c = false) (hm : isMi c = true) (h : C2 c) : C1 c ∧ C2 c ∧ C3 c := ⟨fun _ _ h => by rw [hp] at h; (cases h), h, co_mi o hm h⟩
theorem src_to {c : Co} {A : Ty} {h : Hd7} (hp : isPl c = true) (w : W c A (wide h)) : src c = h := by
  have := (W.src_pl hp w).2
  rw [headW] at this
  exact (Option.some.inj this).symm
theorem src_frm {c : Co} {B : Ty} {h : Hd7} (hp : isMi c = true) (w : W c (wide h) B) : src c = h := by
  have := W.src_mi hp w
  rw [headW] at this
  exact (Option.some.inj this).symm
theorem ev_is0 : ∀ (c : Co) (A B : Ty), W c A B → OkC c → C1 c ∧ C2 c ∧ C3 c
  | .any, _, _, _, _ => ⟨fun _ _ h => by (cases h), fun _ _ h => by (cases h), co_any⟩
  | .base b, A, B, w, o => x_pl o rfl pl_base
  | .two .fn c d, A, B, ⟨_, _, _, _, _, _, w1, w2⟩, o => x_pl o rfl (pl_two (ev_is0 c _ _ w1 o.l).2.2 (ev_is0 d _ _ w2 o.r).2.2)
  | .two .pair c d, A, B, ⟨_, _, _, _, _, _, w1, w2⟩, o => x_pl o rfl (pl_two (ev_is0 c _ _ w1 o.l).2.2 (ev_is0 d _ _ w2 o.r).2.2)
  | .two .cell c d, A, B, ⟨_, _, _, _, w1, w2⟩, o => x_pl o rfl (pl_two (ev_is0 c _ _ w1 o.l).2.2 (ev_is0 d _ _ w2 o.r).2.2)
  | .lst c, A, B, ⟨_, _, _, _, w1⟩, o => x_pl o rfl (pl_lst (ev_is0 c _ _ w1 o.i).2.2)
  | .to c h, A, B, ⟨_, hp, w⟩, o => x_mi o rfl rfl (mi_to hp (src_to hp w) (ev_is0 c _ _ w o.t).1)
  | .fail h l h', A, B, ⟨_, ne⟩, o => x_mi o rfl rfl (mi_fail ne)
  | .frm h l c, A, B, ⟨_, hm, w⟩, o => ⟨fun _ _ h => by (cases h), fun _ _ h => by (cases h), co_frm o hm (src_frm hm w) w.to_pl (ev_is0 c _ _ w o.f).2.1⟩
theorem ev_isC {c : Co} {A B : Ty} (w : W c A B) (o : OkC c) {k : Nat} (h : 152 ≤ k) : callN T hd.G k "is_coercion" [encC c] = some (.bool true) :=
  (ev_is0 c A B w o).2.2 k (by have : dpC c ≤ 50 := o; omega)
theorem ev_chkC {c : Co} {A B : Ty} (w : W c A B) (o : OkC c) {k : Nat} (h : 153 ≤ k) : callN T hd.G k "check_coercion" [encC c] = some .none := by
  obtain ⟨k, rfl⟩ : ∃ j, k = j + 1 := ⟨k - 1, by omega⟩
  rw [r_check_coercion, ev_isC w o (by omega)]; simp
end K11

namespace K11
open PySem L2 EV
theorem Ok.h : Ok hole := by show (1 : Nat) ≤ 50; decide
theorem Ok.a {h : H1} {a : Ty} (o : Ok (.t1 h a)) : Ok a := by unfold Ok at *; simp only [Ty.dp] at o; omega
theorem Ok.l {h : H2} {a b : Ty} (o : Ok (.t2 h a b)) : Ok a := by unfold Ok at *; simp only [Ty.dp] at o; omega
theorem Ok.r {h : H2} {a b : Ty} (o : Ok (.t2 h a b)) : Ok b := by unfold Ok at *; simp only [Ty.dp] at o; omega
@[simp] theorem t0h (h : H0) : (Ty.t0 h = hole) = (h = .hole) := by simp [hole]
@[simp] theorem t1h (h : H1) (a : Ty) : (Ty.t1 h a = hole) = False := by simp [hole]
@[simp] theorem t2h (h : H2) (a b : Ty) : (Ty.t2 h a b = hole) = False := by simp [hole]
/-! ### parts, sizes -/
def kids : Ty → List D | .t0 _ => [] | .t1 _ a => [enc a] | .t2 _ a b => [enc a, enc b]
@[simp] theorem sl_kids (t : Ty) : slD (enc t) (some 1) none = some (.tuple (kids t)) := by cases t <;> kernel_rfl
@[simp] theorem isi_enc (t : Ty) : isTy .tuple (enc t) = some true := by cases t <;> rfl
theorem len_enc (t : Ty) : bD .len [enc t] = some (.int (kids t).length.succ) := by cases t <;> rfl
abbrev PT : D := dictD [("?", (PyData.int 0)), ("int", (PyData.int 0)), ("bool", (PyData.int 0)), ("unit", (PyData.int 0)), ("fun", (PyData.int 2)), ("pair", (PyData.int 2)), ("cell", (PyData.int 1)), ("list", (PyData.int 1))]
@[simp] theorem in_PT (t : Ty) : cmpD .NotIn (.str (hd0 t)) PT = some false := by
  cases t with
  | t0 h => cases h <;> kernel_rfl
  | t1 h a => cases h <;> kernel_rfl
  | t2 h a b => cases h <;> kernel_rfl
@[simp] theorem ix_PT (t : Ty) : ixD PT (.str (hd0 t)) = some (.int (kids t).length) := by
  cases t with
  | t0 h => cases h <;> kernel_rfl
  | t1 h a => cases h <;> kernel_rfl
  | t2 h a b => cases h <;> kernel_rfl
theorem eq_int (i j : Int) : cmpD .Eq (.int i) (.int j) = some (i == j) := rfl
theorem ne_int (i j : Int) : cmpD .NotEq (.int i) (.int j) = some (!(i == j)) := rfl
theorem add_int (i j : Int) : binD .Add (.int i) (.int j) = some (.int (i + j)) := rfl
@[simp] theorem sum0 : bD .sum [.list []] = some (.int 0) := rfl
@[simp] theorem sum1 (x : Int) : bD .sum [.list [.int x]] = some (.int x) := by show some (PyData.int (x + 0)) = _; rw [Int.add_zero]
@[simp] theorem sum2 (x y : Int) : bD .sum [.list [.int x, .int y]] = some (.int (x + y)) := by show some (PyData.int (x + (y + 0))) = _; rw [Int.add_zero]
theorem ev_isT : ∀ (t : Ty) (k : Nat), t.dp ≤ k → callN T hd.G k "is_type" [enc t] = some (.bool true)
  | .t0 h, k + 1, _ => by
    rw [r_is_type]
    simp [len_enc, eq_int, ne_int, add_int, kids, compM]
  | .t1 h a, k + 1, hk => by
    simp only [Ty.dp] at hk
    rw [r_is_type]
    simp [len_enc, eq_int, ne_int, add_int, kids, compM, ev_isT a k (by omega)]
  | .t2 h a b, k + 1, hk => by
    simp only [Ty.dp] at hk
    rw [r_is_type]
    simp [len_enc, eq_int, ne_int, add_int, kids, compM, ev_isT a k (by omega), ev_isT b k (by omega)]
  | .t0 _, 0, h => by cases h
  | .t1 _ _, 0, h => by cases h
  | .t2 _ _ _, 0, h => by cases h
theorem ev_sizeT : ∀ (t : Ty) (k : Nat), t.dp ≤ k → callN T hd.G k "size" [enc t] = some (.int t.sz)
  | .t0 h, k + 1, _ => by
    rw [r_size]
    simp [add_int, kids, compM, Ty.sz]
  | .t1 h a, k + 1, hk => by
    simp only [Ty.dp] at hk
    rw [r_size]
    simp [add_int, kids, compM, Ty.sz, ev_sizeT a k (by omega)]
  | .t2 h a b, k + 1, hk => by
    simp only [Ty.dp] at hk
    rw [r_size]
    simp [add_int, kids, compM, Ty.sz, ev_sizeT a k (by omega), ev_sizeT b k (by omega)]
  | .t0 _, 0, h => by cases h
  | .t1 _ _, 0, h => by cases h
  | .t2 _ _ _, 0, h => by cases h
/-- types that pass the checks -/
structure Fit (t : Ty) : Prop where
  ok : t.dp ≤ 50
  sz : t.sz ≤ 60
theorem dp_sz : ∀ t : Ty, t.dp ≤ t.sz
  | .t0 _ => Nat.le_refl 1
  | .t1 _ a => by have := dp_sz a; simp only [Ty.dp, Ty.sz]; omega
  | .t2 _ a b => by have := dp_sz a; have := dp_sz b; simp only [Ty.dp, Ty.sz]; omega
theorem gt_int (i j : Int) : cmpD .Gt (.int i) (.int j) = some (decide (j < i)) := rfl
theorem ev_check {t : Ty} {k : Nat} (f : Fit t) (hk : 51 ≤ k) : callN T hd.G k "check_type" [enc t] = some .none := by
  obtain ⟨k, rfl⟩ : ∃ j, k = j + 1 := ⟨k - 1, by omega⟩
  have := f.ok
  have h2 : ¬ (60 : Int) < (t.sz : Int) := by have := f.sz; omega
  rw [r_check_type, ev_isT t k (by omega), ev_sizeT t k (by omega)]
  simp [gt_int, h2]
theorem eqH {a : Ty} (ha : Ok a) : cmpD .Eq (enc a) (PyData.tuple [(PyData.str "?")]) = some (decide (a = hole)) := eq_enc ha Ok.h
theorem neH {a : Ty} (ha : Ok a) : cmpD .NotEq (enc a) (PyData.tuple [(PyData.str "?")]) = some (!decide (a = hole)) := ne_enc ha Ok.h
end K11

set_option maxHeartbeats 4000000
namespace K11
open PySem L2 EV
/-! ### consistent types, what is made -/
inductive Cs : Ty → Ty → Prop
  | hl (B : Ty) : Cs hole B
  | hr (A : Ty) : Cs A hole
  | s0 (h : H0) : Cs (.t0 h) (.t0 h)
  | s1 (h : H1) {a b : Ty} : Cs a b → Cs (.t1 h a) (.t1 h b)
  | s2 (h : H2) {a a' b b' : Ty} : Cs a b → Cs a' b' → Cs (.t2 h a a') (.t2 h b b')
inductive Sm : Ty → Ty → Prop
  | s0 (b : B0) : Sm b.t b.t
  | s1 (h : H1) {a b : Ty} : Cs a b → Sm (.t1 h a) (.t1 h b)
  | s2 (h : H2) {a a' b b' : Ty} : Cs a b → Cs a' b' → Sm (.t2 h a a') (.t2 h b b')
theorem Cs.symm {A B : Ty} (h : Cs A B) : Cs B A := by
  induction h with
  | hl B => exact .hr B
  | hr A => exact .hl A
  | s0 h => exact .s0 h
  | s1 h _ ih => exact .s1 h ih
  | s2 h _ _ i1 i2 => exact .s2 h i1 i2
theorem Sm.symm {A B : Ty} (h : Sm A B) : Sm B A := by
  cases h with
  | s0 h => exact .s0 h
  | s1 h a => exact .s1 h a.symm
  | s2 h a b => exact .s2 h a.symm b.symm
theorem Sm.wide {A : Ty} {h : Hd7} (e : headT A = some h) : Sm A (wide h) := by
  cases A with
  | t0 g => cases g <;> cases e <;> first | exact Sm.s0 .int | exact Sm.s0 .bool | exact Sm.s0 .unit
  | t1 g a => cases g <;> cases e <;> exact Sm.s1 _ (.hr _)
  | t2 g a b => cases g <;> cases e <;> exact Sm.s2 _ (.hr _) (.hr _)
theorem Cs.sm {A B : Ty} {h h' : Hd7} (c : Cs A B) (e : headT A = some h) (e' : headT B = some h') : Sm A B := by
  cases c with
  | hl B => cases e
  | hr A => cases e'
  | s0 g => cases g <;> first | (cases e; done) | exact Sm.s0 .int | exact Sm.s0 .bool | exact Sm.s0 .unit
  | s1 g a => exact .s1 g a
  | s2 g a b => exact .s2 g a b
theorem Cs.refl : ∀ A, Cs A A
  | .t0 h => .s0 h | .t1 h a => .s1 h (Cs.refl a) | .t2 h a b => .s2 h (Cs.refl a) (Cs.refl b)
theorem wide_dp {A : Ty} {h : Hd7} (e : headT A = some h) : (wide h).dp ≤ A.dp := by
  cases A with
  | t0 g => cases g <;> cases e <;> exact Nat.le_refl 1
  | t1 g a => cases g <;> cases e <;> (show 2 ≤ a.dp + 1) <;> (cases a <;> simp only [Ty.dp] <;> omega)
  | t2 g a b => cases g <;> cases e <;> (show 2 ≤ max a.dp b.dp + 1) <;> (cases a <;> simp only [Ty.dp] <;> omega)
theorem head_none {A : Ty} (h : headT A = none) : A = hole := by
  cases A with
  | t0 g => cases g <;> first | rfl | cases h
  | t1 g a => cases g <;> cases h
  | t2 g a b => cases g <;> cases h
theorem dp1 (A : Ty) : 1 ≤ A.dp := by cases A <;> simp only [Ty.dp] <;> omega
def st (r : Ty → Ty → Lab → Co) (l : Lab) : Ty → Ty → Co
  | .t0 .int, _ => .base .int | .t0 .bool, _ => .base .bool | .t0 .unit, _ => .base .unit
  | .t1 .cell a, .t1 .cell b => .two .cell (r a b l) (r b a l.turn)
  | .t1 .list a, .t1 .list b => .lst (r a b l)
  | .t2 .fn a a', .t2 .fn b b' => .two .fn (r b a l.turn) (r a' b' l)
  | .t2 .pair a a', .t2 .pair b b' => .two .pair (r a b l) (r a' b' l)
  | _, _ => .any
def mk : Nat → Ty → Ty → Lab → Co
  | 0, _, _, _ => .any
  | n + 1, A, B, l => match headT A, headT B with
    | none, none => .any
    | some h, none => .to (st (mk n) l A (wide h)) h
    | none, some h => .frm h l (st (mk n) l (wide h) B)
    | some _, some _ => st (mk n) l A B
theorem W_st {r : Ty → Ty → Lab → Co} {n : Nat} (hr : ∀ a b l, a.dp ≤ n → b.dp ≤ n → Cs a b → W (r a b l) a b) {A B : Ty} (l : Lab) (ha : A.dp ≤ n + 1) (hb : B.dp ≤ n + 1) (s : Sm A B) :
    W (st r l A B) A B ∧ isPl (st r l A B) = true := by
  cases s with
  | s0 b => cases b <;> exact ⟨⟨rfl, rfl⟩, rfl⟩
  | s1 h c =>
    simp only [Ty.dp] at ha hb
    cases h with
    | cell => exact ⟨⟨_, _, rfl, rfl, hr _ _ _ (by omega) (by omega) c, hr _ _ _ (by omega) (by omega) c.symm⟩, rfl⟩
    | list => exact ⟨⟨_, _, rfl, rfl, hr _ _ _ (by omega) (by omega) c⟩, rfl⟩
  | s2 h c d =>
    simp only [Ty.dp] at ha hb
    cases h with
    | fn => exact ⟨⟨_, _, _, _, rfl, rfl, hr _ _ _ (by omega) (by omega) c.symm, hr _ _ _ (by omega) (by omega) d⟩, rfl⟩
    | pair => exact ⟨⟨_, _, _, _, rfl, rfl, hr _ _ _ (by omega) (by omega) c, hr _ _ _ (by omega) (by omega) d⟩, rfl⟩
theorem W_mk : ∀ (n : Nat) (A B : Ty) (l : Lab), A.dp ≤ n → B.dp ≤ n → Cs A B → W (mk n A B l) A B
  | 0, A, B, l, h, _, _ => by have := dp1 A; omega
  | n + 1, A, B, l, ha, hb, c => by
    have ih := W_mk n
    unfold mk
    match e : headT A, e' : headT B with
    | none, none => exact ⟨head_none e, head_none e'⟩
    | some h, none =>
      have := W_st ih l ha (Nat.le_trans (wide_dp e) ha) (Sm.wide e)
      exact ⟨head_none e', this.2, this.1⟩
    | none, some h =>
      have := W_st ih l (Nat.le_trans (wide_dp e') hb) hb (Sm.wide e').symm
      exact ⟨head_none e, pl_mi this.2, this.1⟩
    | some h, some h' => exact (W_st ih l ha hb (c.sm e e')).1
/-! ### the program's made -/
@[simp] theorem en_int : enc (.t0 .int) = .tuple [.str "int"] := rfl
theorem hd7 {A : Ty} {h : Hd7} (e : headT A = some h) : hd0 A = n7 h := by
  cases A with
  | t0 g => cases g <;> cases e <;> rfl
  | t1 g a => cases g <;> cases e <;> rfl
  | t2 g a b => cases g <;> cases e <;> rfl
theorem ev_wide {A : Ty} {h : Hd7} (e : headT A = some h) (k : Nat) : callN T hd.G (k + 1) "wide" [enc A] = some (enc (wide h)) := by
  rw [r_wide]
  cases A with
  | t0 g => cases g <;> cases e <;> simp [kids, compM] <;> rfl
  | t1 g a => cases g <;> cases e <;> simp [kids, compM] <;> rfl
  | t2 g a b => cases g <;> cases e <;> simp [kids, compM] <;> rfl
abbrev B3 : D := .tuple [.str "int", .str "bool", .str "unit"]
@[simp] theorem b3b (b : B0) : cmpD .In (.str (n7 b.h)) B3 = some true := by cases b <;> kernel_rfl
@[simp] theorem b3h (h : H0) (ne : h ≠ .hole) : cmpD .In (.str (n0 h)) B3 = some true := by cases h <;> first | exact absurd rfl ne | kernel_rfl
@[simp] theorem b31 (h : H1) : cmpD .In (.str (n1 h)) B3 = some false := by cases h <;> kernel_rfl
@[simp] theorem b32 (h : H2) : cmpD .In (.str (n2 h)) B3 = some false := by cases h <;> kernel_rfl
@[simp] theorem m1 (h : H1) : (n1 h == ("fun" : Str)) = false := by cases h <;> decide +kernel
@[simp] theorem m2 (h : H2) : (n2 h == ("cell" : Str)) = false := by cases h <;> decide +kernel
@[simp] theorem m3 : (n1 .cell == ("cell" : Str)) = true := by decide +kernel
@[simp] theorem m4 : (n1 .list == ("cell" : Str)) = false := by decide +kernel
@[simp] theorem m5 : (n2 .fn == ("fun" : Str)) = true := by decide +kernel
@[simp] theorem m6 : (n2 .pair == ("fun" : Str)) = false := by decide +kernel
@[simp] theorem zp1 (x y : D) : zipD (.tuple [x]) (.tuple [y]) = some [.tuple [x, y]] := rfl
@[simp] theorem zp2 (x y x' y' : D) : zipD (.tuple [x, x']) (.tuple [y, y']) = some [.tuple [x, y], .tuple [x', y']] := rfl
@[simp] theorem as_zip (a b c d x y : D) : asg f_structural.N [Sl.sh a, Sl.sh b, Sl.sh c, Sl.sh d, Sl.un, Sl.un, Sl.un] (nmT ["a", "b"]) (.tuple [x, y]) =
    some [Sl.sh a, Sl.sh b, Sl.sh c, Sl.sh d, Sl.un, Sl.sh x, Sl.sh y] := by kernel_rfl
@[simp] theorem rd_sh (b : Bool) (x : D) : rd b (Sl.sh x) = some x := by cases b <;> rfl
def RM (n : Nat) : Prop := ∀ (A B : Ty) (l : Lab) (m : Nat), A.dp ≤ n → B.dp ≤ n → n ≤ 50 → Cs A B → 2 * n + 1 ≤ m → callN T hd.G m "made" [enc A, enc B, encL l] = some (encC (mk n A B l))
theorem ev_st {n : Nat} (hn : n ≤ 49) (hr : RM n) {A B : Ty} (l : Lab) (m : Nat) (ha : A.dp ≤ n + 1) (hb : B.dp ≤ n + 1) (s : Sm A B) (hm : 2 * n + 2 ≤ m) :
    callN T hd.G m "structural" [enc A, enc B, encL l] = some (encC (st (mk n) l A B)) := by
  obtain ⟨m, rfl⟩ : ∃ j, m = j + 1 := ⟨m - 1, by omega⟩
  have ht : callN T hd.G m "turned" [encL l] = some (encL l.turn) := by
    obtain ⟨m, rfl⟩ : ∃ j, m = j + 1 := ⟨m - 1, by omega⟩
    exact ev_turned m l
  rw [r_structural]
  cases s with
  | s0 b => cases b <;> kernel_rfl
  | s1 h c =>
    simp only [Ty.dp] at ha hb
    have i1 := hr _ _ l m (by omega) (by omega) (by omega) c (by omega)
    have i2 := hr _ _ l.turn m (by omega) (by omega) (by omega) c.symm (by omega)
    cases h <;> simp [hd0, ht, i1, i2, kids, compM] <;> rfl
  | s2 h c d =>
    simp only [Ty.dp] at ha hb
    have i1 := hr _ _ l m (by omega) (by omega) (by omega) c (by omega)
    have i2 := hr _ _ l.turn m (by omega) (by omega) (by omega) c.symm (by omega)
    have i3 := hr _ _ l m (by omega) (by omega) (by omega) d (by omega)
    cases h <;> simp [hd0, ht, i1, i2, i3, kids, compM] <;> rfl
theorem hole_iff {A : Ty} : (A = hole) ↔ headT A = none := ⟨fun h => by subst h; rfl, head_none⟩
theorem ev_made : ∀ n, RM n
  | 0, A, B, l, m, h, _, _, _, _ => by have := dp1 A; omega
  | n + 1, A, B, l, m, ha, hb, hn, c, hm => by
    have ih := ev_made n
    obtain ⟨m, rfl⟩ : ∃ j, m = j + 2 := ⟨m - 2, by omega⟩
    have oa : Ok A := Nat.le_trans ha hn
    have ob : Ok B := Nat.le_trans hb hn
    rw [r_made, eqH oa, eqH ob]
    unfold mk
    match e : headT A, e' : headT B with
    | none, none => rw [head_none e, head_none e']; rfl
    | some h, none =>
      have s := ev_st (by omega) ih l (m + 1) ha (Nat.le_trans (wide_dp e) ha) (Sm.wide e) (by omega)
      rw [head_none e']
      have ne : ¬ (A = hole) := by rw [hole_iff, e]; simp
      simp only [ne, decide_true, decide_false, obs1, ct, cf, ev_wide e, s, ix0, hd7 e]
      rfl
    | none, some h =>
      have s := ev_st (by omega) ih l (m + 1) (Nat.le_trans (wide_dp e') hb) hb (Sm.wide e').symm (by omega)
      rw [head_none e]
      have ne : ¬ (B = hole) := by rw [hole_iff, e']; simp
      simp only [ne, decide_true, decide_false, obs1, ct, cf, ev_wide e', s, ix0, hd7 e']
      rfl
    | some h, some h' =>
      have sm := c.sm e e'
      have s := ev_st (by omega) ih l (m + 1) ha hb sm (by omega)
      have ne : ¬ (A = hole) := by rw [hole_iff, e]; simp
      have ne' : ¬ (B = hole) := by rw [hole_iff, e']; simp
      have hh : (hd0 A == hd0 B) = true := by cases sm <;> simp [hd0]
      simp only [ne, ne', decide_true, decide_false, obs1, ct, cf, s, ix0, ne_str, hh, Bool.not_true]
theorem ev_make {n : Nat} (hn : n ≤ 20) {A B : Ty} (l : Lab) {m : Nat} (ha : A.dp ≤ n) (hb : B.dp ≤ n) (fa : Fit A) (fb : Fit B) (c : Cs A B) (hm : 60 ≤ m) :
    callN T hd.G m "make" [enc A, enc B, encL l] = some (encC (mk n A B l)) := by
  obtain ⟨m, rfl⟩ : ∃ j, m = j + 3 := ⟨m - 3, by omega⟩
  rw [r_make, ev_check fa (by omega), ev_check fb (by omega), ev_label, ev_made n A B l _ ha hb (by omega) c (by omega)]
  rfl
end K11

namespace K11
open PySem L2 EV
/-! ### the law's made -/
@[simp] theorem lenT1 (x : D) : bD .len [.tuple [x]] = some (.int 1) := rfl
@[simp] theorem sub_in (i j : Int) : binD .Sub (.int i) (.int j) = some (.int (i - j)) := rfl
abbrev HT : D := .tuple [.tuple [.str "?"]]
@[simp] theorem mulH0 : binD .Mult HT (.int 0) = some (.tuple []) := by kernel_rfl
@[simp] theorem mulH1 : binD .Mult HT (.int 1) = some (.tuple [enc hole]) := by kernel_rfl
@[simp] theorem mulH2 : binD .Mult HT (.int 2) = some (.tuple [enc hole, enc hole]) := by kernel_rfl
@[simp] theorem rdow (b : Bool) (A : Ty) : rd b (Sl.share (owS (enc A))) = some (enc A) := by cases A <;> cases b <;> rfl
@[simp] theorem tuL (xs : List D) : bD .tuple [.list xs] = some (.tuple xs) := rfl
@[simp] theorem addT1 (x y : D) : binD .Add (.tuple [x]) (.tuple [y]) = some (.tuple [x, y]) := rfl
@[simp] theorem addT0 (x : D) : binD .Add (.tuple [x]) (.tuple []) = some (.tuple [x]) := rfl
@[simp] theorem addT2 (x y z : D) : binD .Add (.tuple [x]) (.tuple [y, z]) = some (.tuple [x, y, z]) := rfl
theorem nin (c : Co) : PyData.eqv (encC c) .none = false := by cases c <;> simp [encC, PyData.eqv]
theorem ninT (xs : List D) : cmpD .In .none (.list xs) = (cond (dle 60 (.none) && dle 60 (.list xs)) (some (xs.any fun y => PyData.eqv y .none)) none) := rfl
@[simp] theorem nin1 {c : Co} (o : OkC c) : cmpD .In .none (.list [encC c]) = some false := by
  unfold OkC at o
  rw [ninT]; simp [dleC c 59 (by omega), nin]
@[simp] theorem nin2 {c d : Co} (o : OkC c) (o' : OkC d) : cmpD .In .none (.list [encC c, encC d]) = some false := by
  unfold OkC at o o'
  rw [ninT]; simp [dleC c 59 (by omega), dleC d 59 (by omega), nin]
@[simp] theorem nin0 : cmpD .In .none (.list []) = some false := by kernel_rfl
@[simp] theorem int_b (x : Bool) : bD .int [.bool x] = some (.int (cond x 1 0)) := by cases x <;> rfl
@[simp] theorem ixl0 (x y : D) : ixD (.list [x, y]) (.int 0) = some x := rfl
@[simp] theorem rn1 : rng2 (.int 1) (.int 1) = some [] := by kernel_rfl
@[simp] theorem rn2 : rng2 (.int 1) (.int 2) = some [.int 1] := by kernel_rfl
@[simp] theorem rn3 : rng2 (.int 1) (.int 3) = some [.int 1, .int 2] := by kernel_rfl
@[simp] theorem ixl1' (x y : D) : ixD (.list [x, y]) (.int 1) = some y := rfl
theorem ixN1 : ixN 1 0 = some 0 := rfl
theorem ixN2 : ixN 2 0 = some 0 := rfl
@[simp] theorem lt0 : decide (0 < few) = true := by decide
@[simp] theorem lt1 : decide (1 < few) = true := by decide
@[simp] theorem lt2 : decide (2 < few) = true := by decide
@[simp] theorem lt3 : decide (3 < few) = true := by decide
theorem turn_val (l : Lab) : PyData.tuple [.int (l.n : Int), .bool !l.s] = encL l.turn := rfl
/-- how deep what is made is -/
theorem dp_mk : ∀ (n : Nat) (A B : Ty) (l : Lab), dpC (mk n A B l) ≤ 3 * n + 1
  | 0, A, B, l => by show 1 ≤ _; omega
  | n + 1, A, B, l => by
    have ih := dp_mk n
    have hs : ∀ A B, dpC (st (mk n) l A B) ≤ 3 * n + 2 := by
      intro A B
      unfold st
      split <;> simp only [dpC] <;> first
        | omega
        | (rename_i a b; have := ih a b l; have := ih b a l.turn; omega)
        | (rename_i a a' b b'; have := ih a b l; have := ih b a l.turn; have := ih a' b' l; omega)
    unfold mk
    split <;> try simp only [dpC]
    · omega
    · rename_i h _ _; have := hs A (wide h); omega
    · rename_i h _ _; have := hs (wide h) B; omega
    · have := hs A B; omega
theorem ok_mk {n : Nat} (hn : n ≤ 16) (A B : Ty) (l : Lab) : OkC (mk n A B l) := by have := dp_mk n A B l; unfold OkC; omega
end K11

namespace K11
open PySem L2 EV
/-! ### identities -/
def idn : Ty → Co
  | .t0 .hole => .any | .t0 .int => .base .int | .t0 .bool => .base .bool | .t0 .unit => .base .unit
  | .t1 .cell a => .two .cell (idn a) (idn a)
  | .t1 .list a => .lst (idn a)
  | .t2 .fn a b => .two .fn (idn a) (idn b)
  | .t2 .pair a b => .two .pair (idn a) (idn b)
theorem W_idn : ∀ A, W (idn A) A A
  | .t0 .hole => ⟨rfl, rfl⟩ | .t0 .int => ⟨rfl, rfl⟩ | .t0 .bool => ⟨rfl, rfl⟩ | .t0 .unit => ⟨rfl, rfl⟩
  | .t1 .cell a => ⟨a, a, rfl, rfl, W_idn a, W_idn a⟩
  | .t1 .list a => ⟨a, a, rfl, rfl, W_idn a⟩
  | .t2 .fn a b => ⟨a, b, a, b, rfl, rfl, W_idn a, W_idn b⟩
  | .t2 .pair a b => ⟨a, b, a, b, rfl, rfl, W_idn a, W_idn b⟩
theorem mk_idn : ∀ (n : Nat) (A : Ty) (l : Lab), A.dp ≤ n → mk n A A l = idn A
  | 0, A, l, h => by have := dp1 A; omega
  | n + 1, .t0 h, l, _ => by cases h <;> rfl
  | n + 1, .t1 h a, l, hk => by
    simp only [Ty.dp] at hk
    have i := mk_idn n a
    cases h
    · show Co.two .cell (mk n a a l) (mk n a a l.turn) = _; rw [i l (by omega), i l.turn (by omega)]; rfl
    · show Co.lst (mk n a a l) = _; rw [i l (by omega)]; rfl
  | n + 1, .t2 h a b, l, hk => by
    simp only [Ty.dp] at hk
    have i := mk_idn n a
    have j := mk_idn n b
    cases h
    · show Co.two .fn (mk n a a l.turn) (mk n b b l) = _; rw [i l.turn (by omega), j l (by omega)]; rfl
    · show Co.two .pair (mk n a a l) (mk n b b l) = _; rw [i l (by omega), j l (by omega)]; rfl
theorem dp_idn : ∀ A, dpC (idn A) = A.dp
  | .t0 .hole => rfl | .t0 .int => rfl | .t0 .bool => rfl | .t0 .unit => rfl
  | .t1 .cell a => by simp only [idn, dpC, Ty.dp, dp_idn a]; omega
  | .t1 .list a => by simp only [idn, dpC, Ty.dp, dp_idn a]
  | .t2 .fn a b => by simp only [idn, dpC, Ty.dp, dp_idn a, dp_idn b]
  | .t2 .pair a b => by simp only [idn, dpC, Ty.dp, dp_idn a, dp_idn b]
@[simp] theorem ap0 (x : D) : items (.list [x]) = some [x] := rfl
theorem ev_idof : ∀ (A : Ty) (m : Nat), A.dp ≤ m → Ok A → callN T hd.G m "identity_of" [enc A] = some (encC (idn A))
  | .t0 h, m + 1, _, o => by rw [r_identity_of, eqH o]; cases h <;> kernel_rfl
  | .t1 h a, m + 1, hk, o => by
    simp only [Ty.dp] at hk
    rw [r_identity_of, eqH o]
    have i := ev_idof a m (by omega) o.a
    cases h <;> simp [hd0, kids, compM, i] <;> rfl
  | .t2 h a b, m + 1, hk, o => by
    simp only [Ty.dp] at hk
    rw [r_identity_of, eqH o]
    have i := ev_idof a m (by omega) o.l
    have j := ev_idof b m (by omega) o.r
    cases h <;> simp [hd0, kids, compM, i, j] <;> rfl
  | A, 0, h, _ => by have := dp1 A; omega
theorem ev_identity {A : Ty} (f : Fit A) {m : Nat} (hm : 60 ≤ m) : callN T hd.G m "identity" [enc A] = some (encC (idn A)) := by
  obtain ⟨m, rfl⟩ : ∃ j, m = j + 1 := ⟨m - 1, by omega⟩
  have := f.ok
  rw [r_identity, ev_check f (by omega), ev_idof A m (by omega) f.ok]
  rfl
def isId : Co → Bool
  | .any => true | .base _ => true | .two _ c d => isId c && isId d | .lst c => isId c | _ => false
theorem isId_idn : ∀ A, isId (idn A) = true
  | .t0 .hole => rfl | .t0 .int => rfl | .t0 .bool => rfl | .t0 .unit => rfl
  | .t1 .cell a => by simp [idn, isId, isId_idn a]
  | .t1 .list a => by simp [idn, isId, isId_idn a]
  | .t2 .fn a b => by simp [idn, isId, isId_idn a, isId_idn b]
  | .t2 .pair a b => by simp [idn, isId, isId_idn a, isId_idn b]
theorem isId_eq : ∀ (c : Co) (A B : Ty), W c A B → isId c = true → A = B ∧ c = idn A
  | .any, A, B, ⟨h, h'⟩, _ => by subst h h'; exact ⟨rfl, rfl⟩
  | .base b, A, B, ⟨h, h'⟩, _ => by subst h h'; cases b <;> exact ⟨rfl, rfl⟩
  | .two .fn c d, A, B, ⟨_, _, _, _, h, h', w, w'⟩, e => by
    simp only [isId, Bool.and_eq_true] at e
    have i := isId_eq c _ _ w e.1
    have j := isId_eq d _ _ w' e.2
    obtain ⟨rfl, i⟩ := i
    obtain ⟨rfl, j⟩ := j
    subst h h' i j
    exact ⟨rfl, rfl⟩
  | .two .pair c d, A, B, ⟨_, _, _, _, h, h', w, w'⟩, e => by
    simp only [isId, Bool.and_eq_true] at e
    have i := isId_eq c _ _ w e.1
    have j := isId_eq d _ _ w' e.2
    obtain ⟨rfl, i⟩ := i
    obtain ⟨rfl, j⟩ := j
    subst h h' i j
    exact ⟨rfl, rfl⟩
  | .two .cell c d, A, B, ⟨_, _, h, h', w, w'⟩, e => by
    simp only [isId, Bool.and_eq_true] at e
    have i := isId_eq c _ _ w e.1
    have j := isId_eq d _ _ w' e.2
    obtain ⟨rfl, i⟩ := i
    obtain ⟨_, j⟩ := j
    subst h h' i j
    exact ⟨rfl, rfl⟩
  | .lst c, A, B, ⟨_, _, h, h', w⟩, e => by
    have i := isId_eq c _ _ w e
    obtain ⟨rfl, i⟩ := i
    subst h h' i
    exact ⟨rfl, rfl⟩
  | .frm _ _ _, _, _, _, e => by cases e
  | .to _ _, _, _, _, e => by cases e
  | .fail _ _ _, _, _, _, e => by cases e
theorem isId_iff {c : Co} {A B : Ty} (w : W c A B) : isId c = decide (c = idn A) := by
  cases h : isId c
  · have : ¬ (c = idn A) := fun e => by subst e; rw [isId_idn] at h; cases h
    simp [this]
  · simp [(isId_eq c A B w h).2.symm]
end K11

namespace K11
open PySem L2 EV
/-! ### compositions -/
def comp (a b : Co) : Co := match a with
  | .any => b
  | .fail h l h' => .fail h l h'
  | .frm h l c => .frm h l (comp c b)
  | .to c h => (match b with
    | .frm h' l d => if h = h' then comp c d else .fail h l h'
    | _ => .to c h)
  | .base x => (match b with
    | .to d h => .to (comp (.base x) d) h
    | .fail h l h' => .fail h l h'
    | _ => .base x)
  | .lst c => (match b with
    | .to d h => .to (comp (.lst c) d) h
    | .fail h l h' => .fail h l h'
    | .lst d => .lst (comp c d)
    | _ => .lst c)
  | .two g c c' => (match b with
    | .to d h => .to (comp (.two g c c') d) h
    | .fail h l h' => .fail h l h'
    | .two _ d d' => (match g with
      | .fn => .two .fn (comp d c) (comp c' d')
      | .pair => .two .pair (comp c d) (comp c' d')
      | .cell => .two .cell (comp c d) (comp d' c'))
    | _ => .two g c c')
termination_by sizeOf a + sizeOf b
theorem c_any (b : Co) : comp .any b = b := by rw [comp]
theorem c_fail (h : Hd7) (l : Lab) (h' : Hd7) (b : Co) : comp (.fail h l h') b = .fail h l h' := by rw [comp]
theorem c_frm (h : Hd7) (l : Lab) (c b : Co) : comp (.frm h l c) b = .frm h l (comp c b) := by rw [comp]
theorem c_to_any (c : Co) (h : Hd7) : comp (.to c h) .any = .to c h := by simp [comp]
theorem c_to_frm (c : Co) (h h' : Hd7) (l : Lab) (d : Co) : comp (.to c h) (.frm h' l d) = if h = h' then comp c d else .fail h l h' := by rw [comp]
theorem c_p_to {c : Co} (hp : isPl c = true) (d : Co) (h : Hd7) : comp c (.to d h) = .to (comp c d) h := by cases c <;> first | (cases hp; done) | rw [comp]
theorem c_p_fail {c : Co} (hp : isPl c = true) (h : Hd7) (l : Lab) (h' : Hd7) : comp c (.fail h l h') = .fail h l h' := by cases c <;> first | (cases hp; done) | rw [comp]
theorem c_base (x y : B0) : comp (.base x) (.base y) = .base x := by simp [comp]
theorem c_lst (c d : Co) : comp (.lst c) (.lst d) = .lst (comp c d) := by rw [comp]
theorem c_fn (c c' d d' : Co) : comp (.two .fn c c') (.two .fn d d') = .two .fn (comp d c) (comp c' d') := by rw [comp]
theorem c_pair (c c' d d' : Co) : comp (.two .pair c c') (.two .pair d d') = .two .pair (comp c d) (comp c' d') := by rw [comp]
theorem c_cell (c c' d d' : Co) : comp (.two .cell c c') (.two .cell d d') = .two .cell (comp c d) (comp d' c') := by rw [comp]
def hgt : Co → Nat
  | .any => 1 | .base _ => 1 | .fail _ _ _ => 1 | .two _ c d => 1 + max (hgt c) (hgt d) | .lst c => 1 + hgt c | .frm _ _ c => hgt c | .to c _ => hgt c
theorem wnh (h : Hd7) : wide h ≠ hole := by cases h <;> simp [wide]
theorem pl_nh {c : Co} {A B : Ty} (hp : isPl c = true) (w : W c A B) : A ≠ hole ∧ B ≠ hole := by
  obtain ⟨h1, h2⟩ := W.src_pl hp w
  exact ⟨fun e => (by rw [e] at h1; cases h1), fun e => (by rw [e] at h2; cases h2)⟩
theorem mi_nh {c : Co} {A B : Ty} (hp : isMi c = true) (w : W c A B) : A ≠ hole := by
  have := W.src_mi hp w
  exact fun e => (by rw [e] at this; cases this)
/-- what starts at a type that is no hole is a middle -/
theorem nh_mi {c : Co} {A B : Ty} (w : W c A B) (n : A ≠ hole) : isMi c = true := by
  cases c <;> first | rfl | exact absurd w.1 n
/-- the ways that two coercions meet -/
inductive Meet : Co → Co → Ty → Ty → Ty → Prop
  | any (b B C) (w : W b B C) (hB : B = hole) : Meet .any b B B C
  | fail (h l h' b A B C) (e : headT A = some h) (ne : h ≠ h') : Meet (.fail h l h') b A B C
  | frm (h l c b A B C) (hA : A = hole) (m : isMi c = true) (w : W c (wide h) B) (w' : W b B C) : Meet (.frm h l c) b A B C
  | ta (c h A B C) (hB : B = hole) (hC : C = hole) (p : isPl c = true) (w : W c A (wide h)) : Meet (.to c h) .any A B C
  | tf (c h h' l d A B C) (hB : B = hole) (p : isPl c = true) (w : W c A (wide h)) (m : isMi d = true) (w' : W d (wide h') C) : Meet (.to c h) (.frm h' l d) A B C
  | pt (c d h A B C) (p : isPl c = true) (w : W c A B) (hC : C = hole) (p' : isPl d = true) (w' : W d B (wide h)) : Meet c (.to d h) A B C
  | pf (c h l h' A B C) (p : isPl c = true) (w : W c A B) (e : headT B = some h) (ne : h ≠ h') : Meet c (.fail h l h') A B C
  | bb (b : B0) : Meet (.base b) (.base b) b.t b.t b.t
  | ll (c d a b e) (w : W c a b) (w' : W d b e) : Meet (.lst c) (.lst d) (.t1 .list a) (.t1 .list b) (.t1 .list e)
  | ff (c c' d d' a a' b b' e e') (w : W c b a) (w1 : W c' a' b') (w2 : W d e b) (w3 : W d' b' e') : Meet (.two .fn c c') (.two .fn d d') (.t2 .fn a a') (.t2 .fn b b') (.t2 .fn e e')
  | pp (c c' d d' a a' b b' e e') (w : W c a b) (w1 : W c' a' b') (w2 : W d b e) (w3 : W d' b' e') : Meet (.two .pair c c') (.two .pair d d') (.t2 .pair a a') (.t2 .pair b b') (.t2 .pair e e')
  | cc (c c' d d' a b e) (w : W c a b) (w1 : W c' b a) (w2 : W d b e) (w3 : W d' e b) : Meet (.two .cell c c') (.two .cell d d') (.t1 .cell a) (.t1 .cell b) (.t1 .cell e)
theorem bt_inj {a b : B0} (h : a.t = b.t) : a = b := by cases a <;> cases b <;> first | rfl | cases h
theorem meet {a b : Co} {A B C : Ty} (w : W a A B) (w' : W b B C) : Meet a b A B C := by
  cases a with
  | any =>
    obtain ⟨h, h'⟩ := w
    subst h h'
    exact .any _ _ _ w' rfl
  | fail h l h' => exact .fail _ _ _ _ _ _ _ w.1 w.2
  | frm h l c => exact .frm _ _ _ _ _ _ _ w.1 w.2.1 w.2.2 w'
  | to c h =>
    obtain ⟨hB, p, w⟩ := w
    cases b with
    | any => exact .ta _ _ _ _ _ hB w'.2 p w
    | frm h' l d => exact .tf _ _ _ _ _ _ _ _ hB p w w'.2.1 w'.2.2
    | _ => exact absurd hB (mi_nh (by rfl) w')
  | base x =>
    have hn := (pl_nh (c := .base x) rfl w).2
    cases b with
    | any => exact absurd w'.1 hn
    | frm _ _ _ => exact absurd w'.1 hn
    | to d h => exact .pt _ _ _ _ _ _ rfl w w'.1 w'.2.1 w'.2.2
    | fail h l h' => exact .pf _ _ _ _ _ _ _ rfl w w'.1 w'.2
    | base y =>
      obtain ⟨h1, h2⟩ := w
      obtain ⟨h3, h4⟩ := w'
      subst h1 h2
      have := bt_inj h3
      subst this
      subst h4
      exact .bb _
    | two g _ _ =>
      obtain ⟨h1, h2⟩ := w
      cases g <;> obtain ⟨_, _, _, _, h3, _⟩ := w' <;> first | (obtain ⟨h3, _⟩ := h3) | skip
      all_goals (cases x <;> simp_all [B0.t])
    | lst _ =>
      obtain ⟨h1, h2⟩ := w
      obtain ⟨_, _, h3, _⟩ := w'
      cases x <;> simp_all [B0.t]
  | lst c =>
    have hn := (pl_nh (c := .lst c) rfl w).2
    cases b with
    | any => exact absurd w'.1 hn
    | frm _ _ _ => exact absurd w'.1 hn
    | to d h => exact .pt _ _ _ _ _ _ rfl w w'.1 w'.2.1 w'.2.2
    | fail h l h' => exact .pf _ _ _ _ _ _ _ rfl w w'.1 w'.2
    | base y =>
      obtain ⟨_, _, _, h1, _⟩ := w
      obtain ⟨h3, _⟩ := w'
      cases y <;> simp_all [B0.t]
    | two g _ _ =>
      obtain ⟨_, _, _, h1, _⟩ := w
      cases g <;> simp_all [W]
    | lst d =>
      obtain ⟨_, _, h1, h2, w1⟩ := w
      obtain ⟨_, _, h3, h4, w2⟩ := w'
      rw [h2] at h3
      cases h3
      subst h1 h2 h4
      exact .ll _ _ _ _ _ w1 w2
  | two g c c' =>
    have hn := (pl_nh (c := .two g c c') rfl w).2
    cases b with
    | any => exact absurd w'.1 hn
    | frm _ _ _ => exact absurd w'.1 hn
    | to d h => exact .pt _ _ _ _ _ _ rfl w w'.1 w'.2.1 w'.2.2
    | fail h l h' => exact .pf _ _ _ _ _ _ _ rfl w w'.1 w'.2
    | base y => cases g <;> cases y <;> simp_all [B0.t, W]
    | lst d =>
      obtain ⟨_, _, h3, _⟩ := w'
      subst h3
      cases g <;> simp [W] at w
    | two g' d d' =>
      cases g with
      | fn =>
        obtain ⟨_, _, _, _, h1, h2, w1, w2⟩ := w
        subst h1 h2
        cases g' with
        | fn =>
          obtain ⟨_, _, _, _, h3, h4, w3, w4⟩ := w'
          cases h3
          subst h4
          exact .ff _ _ _ _ _ _ _ _ _ _ w1 w2 w3 w4
        | pair => obtain ⟨_, _, _, _, h3, _⟩ := w'; cases h3
        | cell => obtain ⟨_, _, h3, _⟩ := w'; cases h3
      | pair =>
        obtain ⟨_, _, _, _, h1, h2, w1, w2⟩ := w
        subst h1 h2
        cases g' with
        | pair =>
          obtain ⟨_, _, _, _, h3, h4, w3, w4⟩ := w'
          cases h3
          subst h4
          exact .pp _ _ _ _ _ _ _ _ _ _ w1 w2 w3 w4
        | fn => obtain ⟨_, _, _, _, h3, _⟩ := w'; cases h3
        | cell => obtain ⟨_, _, h3, _⟩ := w'; cases h3
      | cell =>
        obtain ⟨_, _, h1, h2, w1, w2⟩ := w
        subst h1 h2
        cases g' with
        | cell =>
          obtain ⟨_, _, h3, h4, w3, w4⟩ := w'
          cases h3
          subst h4
          exact .cc _ _ _ _ _ _ _ w1 w2 w3 w4
        | fn => obtain ⟨_, _, _, _, h3, _⟩ := w'; cases h3
        | pair => obtain ⟨_, _, _, _, h3, _⟩ := w'; cases h3
end K11

namespace K11
open PySem L2 EV
theorem W_comp : ∀ (n : Nat) {a b : Co} {A B C : Ty}, dpC a + dpC b ≤ n → W a A B → W b B C →
    W (comp a b) A C ∧ (isMi a = true → isMi (comp a b) = true) ∧ (isPl a = true → isPl b = true → isPl (comp a b) = true)
  | 0, a, b, _, _, _, h, _, _ => by have := dpC1 a; omega
  | n + 1, a, b, A, B, C, hn, w, w' => by
    have ih := @W_comp n
    cases meet w w' with
    | any b B C w hB => rw [c_any]; subst hB; exact ⟨w, fun h => by (cases h), fun h => by (cases h)⟩
    | fail h l h' b A B C e ne => rw [c_fail]; exact ⟨⟨e, ne⟩, fun _ => rfl, fun h => by (cases h)⟩
    | frm h l c b A B C hA m w w' =>
      simp only [dpC] at hn
      have i := ih (by omega) w w'
      rw [c_frm]; exact ⟨⟨hA, i.2.1 m, i.1⟩, fun h => by (cases h), fun h => by (cases h)⟩
    | ta c h A B C hB hC p w => rw [c_to_any]; exact ⟨⟨hC, p, w⟩, fun _ => rfl, fun h => by (cases h)⟩
    | tf c h h' l d A B C hB p w m w' =>
      simp only [dpC] at hn
      rw [c_to_frm]
      by_cases e : h = h'
      · subst e
        have i := ih (by omega) w w'
        simp only [if_true]
        exact ⟨i.1, fun _ => i.2.1 (pl_mi p), fun h => by (cases h)⟩
      · simp only [e, if_false]
        have := W.src_pl p w
        rw [src_to p w] at this
        exact ⟨⟨this.1, e⟩, fun _ => rfl, fun h => by (cases h)⟩
    | pt c d h A B C p w hC p' w' =>
      simp only [dpC] at hn
      have i := ih (by omega) w w'
      rw [c_p_to p]
      exact ⟨⟨hC, i.2.2 p p', i.1⟩, fun _ => rfl, fun _ h => by (cases h)⟩
    | pf c h l h' A B C p w e ne =>
      rw [c_p_fail p]
      have := W.src_pl p w
      rw [e] at this
      have e' := Option.some.inj this.2
      exact ⟨⟨by rw [this.1, e'], ne⟩, fun _ => rfl, fun _ h => by (cases h)⟩
    | bb b => rw [c_base]; exact ⟨⟨rfl, rfl⟩, fun _ => rfl, fun _ _ => rfl⟩
    | ll c d a b e u0 u1 =>
      simp only [dpC] at hn
      have i := ih (by omega) u0 u1
      rw [c_lst]; exact ⟨⟨_, _, rfl, rfl, i.1⟩, fun _ => rfl, fun _ _ => rfl⟩
    | ff c c' d d' a a' b b' e e' u0 w1 w2 w3 =>
      simp only [dpC] at hn
      have i := ih (by omega) w2 u0
      have j := ih (by omega) w1 w3
      rw [c_fn]; exact ⟨⟨_, _, _, _, rfl, rfl, i.1, j.1⟩, fun _ => rfl, fun _ _ => rfl⟩
    | pp c c' d d' a a' b b' e e' u0 w1 w2 w3 =>
      simp only [dpC] at hn
      have i := ih (by omega) u0 w2
      have j := ih (by omega) w1 w3
      rw [c_pair]; exact ⟨⟨_, _, _, _, rfl, rfl, i.1, j.1⟩, fun _ => rfl, fun _ _ => rfl⟩
    | cc c c' d d' a b e u0 w1 w2 w3 =>
      simp only [dpC] at hn
      have i := ih (by omega) u0 w2
      have j := ih (by omega) w3 w1
      rw [c_cell]; exact ⟨⟨_, _, rfl, rfl, i.1, j.1⟩, fun _ => rfl, fun _ _ => rfl⟩
theorem W.comp {a b : Co} {A B C : Ty} (w : W a A B) (w' : W b B C) : W (comp a b) A C := (W_comp _ (Nat.le_refl _) w w').1
theorem pl_comp {a b : Co} {A B C : Ty} (w : W a A B) (w' : W b B C) (p : isPl a = true) (p' : isPl b = true) : isPl (comp a b) = true := (W_comp _ (Nat.le_refl _) w w').2.2 p p'
theorem hgt1 : ∀ c, 1 ≤ hgt c
  | .any => Nat.le_refl 1 | .base _ => Nat.le_refl 1 | .fail _ _ _ => Nat.le_refl 1 | .two _ c d => by simp only [hgt]; omega | .lst c => by simp only [hgt]; omega
  | .frm _ _ c => hgt1 c | .to c _ => hgt1 c
theorem hgt_comp : ∀ (n : Nat) {a b : Co} {A B C : Ty}, dpC a + dpC b ≤ n → W a A B → W b B C → hgt (comp a b) ≤ max (hgt a) (hgt b)
  | 0, a, b, _, _, _, h, _, _ => by have := dpC1 a; omega
  | n + 1, a, b, A, B, C, hn, w, w' => by
    have ih := @hgt_comp n
    cases meet w w' with
    | any b B C w hB => rw [c_any]; omega
    | fail h l h' b A B C e ne => rw [c_fail]; omega
    | frm h l c b A B C hA m w w' =>
      simp only [dpC] at hn
      have i := ih (by omega) w w'
      rw [c_frm]; simp only [hgt]; omega
    | ta c h A B C hB hC p w => rw [c_to_any]; simp only [hgt]; omega
    | tf c h h' l d A B C hB p w m w' =>
      simp only [dpC] at hn
      rw [c_to_frm]
      by_cases e : h = h'
      · subst e
        have i := ih (by omega) w w'
        simp only [if_true, hgt]; omega
      · simp only [e, if_false, hgt]
        have := hgt1 c
        omega
    | pt c d h A B C p w hC p' w' =>
      simp only [dpC] at hn
      have i := ih (by omega) w w'
      rw [c_p_to p]; simp only [hgt]; omega
    | pf c h l h' A B C p w e ne => rw [c_p_fail p]; simp only [hgt]; omega
    | bb b => rw [c_base]; simp only [hgt]; omega
    | ll c d a b e u0 u1 =>
      simp only [dpC] at hn
      have i := ih (by omega) u0 u1
      rw [c_lst]; simp only [hgt]; omega
    | ff c c' d d' a a' b b' e e' u0 w1 w2 w3 =>
      simp only [dpC] at hn
      have i := ih (by omega) w2 u0
      have j := ih (by omega) w1 w3
      rw [c_fn]; simp only [hgt]; omega
    | pp c c' d d' a a' b b' e e' u0 w1 w2 w3 =>
      simp only [dpC] at hn
      have i := ih (by omega) u0 w2
      have j := ih (by omega) w1 w3
      rw [c_pair]; simp only [hgt]; omega
    | cc c c' d d' a b e u0 w1 w2 w3 =>
      simp only [dpC] at hn
      have i := ih (by omega) u0 w2
      have j := ih (by omega) w3 w1
      rw [c_cell]; simp only [hgt]; omega
theorem W.hgt {a b : Co} {A B C : Ty} (w : W a A B) (w' : W b B C) : hgt (K11.comp a b) ≤ max (K11.hgt a) (K11.hgt b) := hgt_comp _ (Nat.le_refl _) w w'
theorem dp_hgt : ∀ (c : Co) {A B : Ty}, W c A B → (isPl c = true → dpC c + 2 ≤ 3 * hgt c) ∧ (isMi c = true → dpC c + 1 ≤ 3 * hgt c) ∧ dpC c ≤ 3 * hgt c
  | .any, _, _, _ => ⟨fun h => by (cases h), fun h => by (cases h), by simp only [dpC, hgt]; omega⟩
  | .base _, _, _, _ => by simp only [dpC, hgt]; omega
  | .fail _ _ _, _, _, _ => by simp only [dpC, hgt]; exact ⟨fun _ => by (rename_i h; cases h), fun _ => by omega, by omega⟩
  | .two .fn c d, _, _, ⟨_, _, _, _, _, _, w, w'⟩ => by
    have i := dp_hgt c w
    have j := dp_hgt d w'
    simp only [dpC, hgt]; omega
  | .two .pair c d, _, _, ⟨_, _, _, _, _, _, w, w'⟩ => by
    have i := dp_hgt c w
    have j := dp_hgt d w'
    simp only [dpC, hgt]; omega
  | .two .cell c d, _, _, ⟨_, _, _, _, w, w'⟩ => by
    have i := dp_hgt c w
    have j := dp_hgt d w'
    simp only [dpC, hgt]; omega
  | .lst c, _, _, ⟨_, _, _, _, w⟩ => by
    have i := dp_hgt c w
    simp only [dpC, hgt]; omega
  | .frm h l c, _, _, ⟨_, m, w⟩ => by
    have i := dp_hgt c w
    have := i.2.1 m
    have := dpC1 c
    simp only [dpC, hgt]
    exact ⟨fun h => by (cases h), fun h => by (cases h), by omega⟩
  | .to c h, _, _, ⟨_, m, w⟩ => by
    have i := dp_hgt c w
    have := i.1 m
    simp only [dpC, hgt]
    exact ⟨fun h => by (cases h), fun h => by omega, by omega⟩
theorem ok_hgt {c : Co} {A B : Ty} (w : W c A B) (h : hgt c ≤ 16) : OkC c := by have := (dp_hgt c w).2.2; unfold OkC; omega
/-! ### associativity, identities -/
theorem assoc : ∀ (n : Nat) {a b c : Co} {A B C E : Ty}, dpC a + dpC b + dpC c ≤ n → W a A B → W b B C → W c C E → comp (comp a b) c = comp a (comp b c)
  | 0, a, b, c, _, _, _, _, h, _, _, _ => by have := dpC1 a; omega
  | n + 1, a, b, x, A, B, C, E, hn, w, w', wx => by
    have ih := @assoc n
    have key : isPl a = true → isPl b = true → (∀ d h, x = .to d h → W d C (wide h) → comp (comp a b) d = comp a (comp b d)) → (∀ y, x = y → isPl x = true → comp (comp a b) x = comp a (comp b x)) → comp (comp a b) x = comp a (comp b x) := by
      intro pa pb k1 k2
      have pc := pl_comp w w' pa pb
      have nh := (pl_nh pb w').2
      cases x with
      | any => exact absurd wx.1 nh
      | frm _ _ _ => exact absurd wx.1 nh
      | to d h => rw [c_p_to pc, c_p_to pb, c_p_to pa, k1 d h rfl wx.2.2]
      | fail h l h' => rw [c_p_fail pc, c_p_fail pb, c_p_fail pa]
      | _ => exact k2 _ rfl rfl
    have kto : ∀ d h, x = .to d h → W d C (wide h) → comp (comp a b) d = comp a (comp b d) := by
      intro d h e wd
      subst e
      simp only [dpC] at hn
      exact ih (by omega) w w' wd
    cases meet w w' with
    | any b B C w hB => rw [c_any, c_any]
    | fail h l h' b A B C e ne => rw [c_fail, c_fail, c_fail]
    | frm h l c b A B C hA m w w' =>
      simp only [dpC] at hn
      rw [c_frm, c_frm, c_frm, ih (by omega) w w' wx]
    | ta c h A B C hB hC p w => rw [c_to_any, c_any]
    | tf c h h' l d A B C hB p w m w' =>
      simp only [dpC] at hn
      rw [c_to_frm, c_frm, c_to_frm]
      by_cases e : h = h'
      · subst e
        simp only [if_true]
        exact ih (by omega) w w' wx
      · simp only [e, if_false, c_fail]
    | pt c d h A B C p w hC p' w' =>
      simp only [dpC] at hn
      rw [c_p_to p]
      cases x with
      | any => rw [c_to_any, c_to_any, c_p_to p]
      | frm h' l e =>
        rw [c_to_frm, c_to_frm]
        by_cases eq : h = h'
        · subst eq
          simp only [if_true]
          simp only [dpC] at hn
          exact ih (by omega) w w' wx.2.2
        · simp only [eq, if_false]
          rw [c_p_fail p]
      | _ => exact absurd hC (mi_nh (by rfl) wx)
    | pf c h l h' A B C p w e ne => rw [c_p_fail p, c_fail, c_p_fail p]
    | bb b =>
      refine key rfl rfl kto ?_
      intro y _ px
      cases meet w' wx with
      | bb _ => rw [c_base]
      | pt _ _ _ _ _ _ _ _ _ _ _ => cases px
      | pf _ _ _ _ _ _ _ _ _ _ _ => cases px
    | ll c d a b e w1 w2 =>
      refine key rfl rfl kto ?_
      intro y _ px
      cases meet w' wx with
      | pt _ _ _ _ _ _ _ _ _ _ _ => cases px
      | pf _ _ _ _ _ _ _ _ _ _ _ => cases px
      | ll _ f _ _ _ _ w3 =>
        simp only [dpC] at hn
        rw [c_lst, c_lst, c_lst, c_lst, ih (by omega) w1 w2 w3]
    | ff c c' d d' a a' b b' e e' w1 w2 w3 w4 =>
      refine key rfl rfl kto ?_
      intro y _ px
      cases meet w' wx with
      | pt _ _ _ _ _ _ _ _ _ _ _ => cases px
      | pf _ _ _ _ _ _ _ _ _ _ _ => cases px
      | ff _ _ f f' _ _ _ _ _ _ _ _ w5 w6 =>
        simp only [dpC] at hn
        rw [c_fn, c_fn, c_fn, c_fn, ← ih (by omega) w5 w3 w1, ih (by omega) w2 w4 w6]
    | pp c c' d d' a a' b b' e e' w1 w2 w3 w4 =>
      refine key rfl rfl kto ?_
      intro y _ px
      cases meet w' wx with
      | pt _ _ _ _ _ _ _ _ _ _ _ => cases px
      | pf _ _ _ _ _ _ _ _ _ _ _ => cases px
      | pp _ _ f f' _ _ _ _ _ _ _ _ w5 w6 =>
        simp only [dpC] at hn
        rw [c_pair, c_pair, c_pair, c_pair, ih (by omega) w1 w3 w5, ih (by omega) w2 w4 w6]
    | cc c c' d d' a b e w1 w2 w3 w4 =>
      refine key rfl rfl kto ?_
      intro y _ px
      cases meet w' wx with
      | pt _ _ _ _ _ _ _ _ _ _ _ => cases px
      | pf _ _ _ _ _ _ _ _ _ _ _ => cases px
      | cc _ _ f f' _ _ _ _ _ w5 w6 =>
        simp only [dpC] at hn
        rw [c_cell, c_cell, c_cell, c_cell, ih (by omega) w1 w3 w5, ← ih (by omega) w6 w4 w2]
theorem assoc' {a b c : Co} {A B C E : Ty} (w : W a A B) (w' : W b B C) (wx : W c C E) : comp (comp a b) c = comp a (comp b c) := assoc _ (Nat.le_refl _) w w' wx
theorem bt_idn (b : B0) : idn b.t = .base b := by cases b <;> rfl
theorem pl_idn {A : Ty} (h : A ≠ hole) : isPl (idn A) = true := by
  cases A with
  | t0 g => cases g <;> first | rfl | exact absurd rfl h
  | t1 g a => cases g <;> rfl
  | t2 g a b => cases g <;> rfl
mutual
theorem idl : ∀ (a : Co) {A B : Ty}, W a A B → comp (idn A) a = a
  | .any, A, B, w => by rw [w.1]; show comp .any _ = _; rw [c_any]
  | .frm h l c, A, B, w => by rw [w.1]; show comp .any _ = _; rw [c_any]
  | .to c h, A, B, w => by
    have nh := (pl_nh w.2.1 w.2.2).1
    rw [c_p_to (pl_idn nh), idl c w.2.2]
  | .fail h l h', A, B, w => by
    have nh : A ≠ hole := fun e => by (have := w.1; rw [e] at this; cases this)
    rw [c_p_fail (pl_idn nh)]
  | .base b, A, B, w => by rw [w.1, bt_idn, c_base]
  | .lst c, A, B, ⟨_, _, h, _, w⟩ => by subst h; show comp (.lst _) _ = _; rw [c_lst, idl c w]
  | .two .fn c d, A, B, ⟨_, _, _, _, h, _, w, w'⟩ => by
    subst h; show comp (.two .fn _ _) _ = _
    rw [c_fn, idl d w', idr c w]
  | .two .pair c d, A, B, ⟨_, _, _, _, h, _, w, w'⟩ => by
    subst h; show comp (.two .pair _ _) _ = _
    rw [c_pair, idl d w', idl c w]
  | .two .cell c d, A, B, ⟨_, _, h, _, w, w'⟩ => by
    subst h; show comp (.two .cell _ _) _ = _
    rw [c_cell, idl c w, idr d w']
theorem idr : ∀ (a : Co) {A B : Ty}, W a A B → comp a (idn B) = a
  | .any, A, B, w => by rw [w.2, c_any]; rfl
  | .frm h l c, A, B, w => by rw [c_frm, idr c w.2.2]
  | .to c h, A, B, w => by rw [w.1]; show comp _ .any = _; rw [c_to_any]
  | .fail h l h', A, B, w => by rw [c_fail]
  | .base b, A, B, w => by rw [w.2, bt_idn, c_base]
  | .lst c, A, B, ⟨_, _, _, h, w⟩ => by subst h; show comp _ (.lst _) = _; rw [c_lst, idr c w]
  | .two .fn c d, A, B, ⟨_, _, _, _, _, h, w, w'⟩ => by
    subst h; show comp _ (.two .fn _ _) = _
    rw [c_fn, idr d w', idl c w]
  | .two .pair c d, A, B, ⟨_, _, _, _, _, h, w, w'⟩ => by
    subst h; show comp _ (.two .pair _ _) = _
    rw [c_pair, idr d w', idr c w]
  | .two .cell c d, A, B, ⟨_, _, _, h, w, w'⟩ => by
    subst h; show comp _ (.two .cell _ _) = _
    rw [c_cell, idr c w, idl d w']
end
end K11

namespace K11
open PySem L2 EV
abbrev TD : D := dictD [("fun", (PyData.int 1)), ("cell", (PyData.int 2))]
def fl : G2 → Int | .fn => 1 | .pair => 0 | .cell => 2
@[simp] theorem td2 (g : G2) : getD2 TD (.str (n7 g.h)) (.int 0) = some (.int (fl g)) := by cases g <;> kernel_rfl
@[simp] theorem tdl : getD2 TD (.str "list") (.int 0) = some (.int 0) := by kernel_rfl
@[simp] theorem ti2 (g : G2) : getI2 [("fun", 1), ("cell", 2)] (.str (n7 g.h)) (.int 0) = some (.int (fl g)) := by cases g <;> kernel_rfl
@[simp] theorem til : getI2 [("fun", 1), ("cell", 2)] (.str "list") (.int 0) = some (.int 0) := by kernel_rfl
@[simp] theorem sl3 (h : Hd7) (l : Lab) (c : Co) : slD (encC (.frm h l c)) none (some 3) = some (.tuple [.str "from", .str (n7 h), encL l]) := by kernel_rfl
@[simp] theorem add31 (a b c x : D) : binD .Add (.tuple [a, b, c]) (.tuple [x]) = some (.tuple [a, b, c, x]) := rfl
@[simp] theorem truT (x : D) (xs : List D) : truD (.tuple (x :: xs)) = some true := rfl
@[simp] theorem truN : truD .none = some false := rfl
def CE (n : Nat) : Prop := ∀ (a b : Co) (A B C : Ty), dpC a + dpC b ≤ n → W a A B → W b B C → OkC a → OkC b → ∀ m, 3 * n ≤ m → callN T hd.G m "composed" [encC a, encC b] = some (encC (comp a b))
theorem ev_tag {n : Nat} (hr : CE n) (c : Co) (h h' : Hd7) (l : Lab) (d : Co) {A C : Ty} (hn : dpC c + dpC d ≤ n) (p : isPl c = true) (w : W c A (wide h)) (m : isMi d = true) (w' : W d (wide h') C) (oc : OkC (.to c h)) (od : OkC (.frm h' l d)) (k : Nat) (hk : 3 * n + 1 ≤ k) :
    callN T hd.G k "behind_tag" [encC (.to c h), encC (.frm h' l d)] = some (encC (comp (.to c h) (.frm h' l d))) := by
  obtain ⟨k, rfl⟩ : ∃ j, k = j + 1 := ⟨k - 1, by omega⟩
  rw [r_behind_tag, eqAny od, c_to_frm]
  by_cases e : h = h'
  · subst e
    simp [hr _ _ _ _ _ hn w w' oc.t od.f k (by omega)]
  · simp [e]; rfl
theorem loop2 (k : Nat) {g : G2} {c c' d d' : Co} {x y : Co} (h1 : callN T hd.G k "composed" (if fl g = 1 then [encC d, encC c] else [encC c, encC d]) = some (encC x))
    (h2 : callN T hd.G k "composed" (if fl g = 2 then [encC d', encC c'] else [encC c', encC d']) = some (encC y)) :
    callN T hd.G (k + 1) "both" [encC (.two g c c'), encC (.two g d d')] = some (encC (.two g x y)) := by
  rw [r_both]
  cases g <;> simp only [fl] at h1 h2 <;> simp at h1 h2 <;>
    simp [tg, ncs, fl, forL, r_both_3g, r_both_3b, r_both_3a, h1, h2] <;> rfl
theorem loop1 (k : Nat) {c d : Co} {x : Co} (h1 : callN T hd.G k "composed" [encC c, encC d] = some (encC x)) :
    callN T hd.G (k + 1) "both" [encC (.lst c), encC (.lst d)] = some (encC (.lst x)) := by
  rw [r_both]
  simp [tg, ncs, fl, forL, r_both_3g, r_both_3b, r_both_3a, h1]; rfl
theorem evC_both {a b : Co} (pa : isPl a = true) (pb : isPl b = true) (oa : OkC a) {k : Nat} {r : D} (h : callN T hd.G k "both" [encC a, encC b] = some r) :
    callN T hd.G (k + 1) "composed" [encC a, encC b] = some r := by
  rw [r_composed, eqAny oa]
  cases a <;> (first | (cases pa; done) | skip) <;> cases b <;> (first | (cases pb; done) | skip) <;> simp [tg, h]
theorem ev_comp : ∀ n, CE n
  | 0 => by intro a b _ _ _ h; have := dpC1 a; omega
  | n + 1 => by
    intro a b A B C hn w w' oa ob k hk
    have ih0 := ev_comp n
    have ih : ∀ {a b : Co} {A B C : Ty}, dpC a + dpC b ≤ n → W a A B → W b B C → OkC a → OkC b → ∀ m, 3 * n ≤ m → callN T hd.G m "composed" [encC a, encC b] = some (encC (comp a b)) := fun {a b A B C} => ih0 a b A B C
    obtain ⟨k, rfl⟩ : ∃ j, k = j + 2 := ⟨k - 2, by omega⟩
    cases meet w w' with
    | any b B C w hB => rw [r_composed, eqAny oa, c_any]; simp
    | fail h l h' b A B C e ne => rw [r_composed, eqAny oa, c_fail]; simp [tg]
    | frm h l c b A B C hA m w w' =>
      simp only [dpC] at hn
      have i := ih (by omega) w w' oa.f ob (k + 1) (by omega)
      rw [r_composed, eqAny oa, c_frm]; simp [tg, i]; rfl
    | ta c h A B C hB hC p w =>
      rw [r_composed, eqAny oa, c_to_any, r_behind_tag, eqAny ob]; simp [tg]
    | tf c h h' l d A B C hB p w m w' =>
      simp only [dpC] at hn
      have i := ev_tag ih0 c h h' l d (by omega) p w m w' oa ob (k + 1) (by omega)
      rw [r_composed, eqAny oa, i]; simp [tg]
    | pt c d h A B C p w hC p' w' =>
      simp only [dpC] at hn
      have i := ih (by omega) w w' oa ob.t (k + 1) (by omega)
      rw [r_composed, eqAny oa, c_p_to p]
      cases a <;> (first | (cases p; done) | skip) <;> simp [tg, i] <;> rfl
    | pf c h l h' A B C p w e ne =>
      rw [r_composed, eqAny oa, c_p_fail p]
      cases a <;> (first | (cases p; done) | skip) <;> simp [tg]
    | bb b => refine evC_both rfl rfl oa ?_; rw [r_both, c_base]; simp [tg]
    | ll c d a b e u0 u1 =>
      simp only [dpC] at hn
      refine evC_both rfl rfl oa ?_
      rw [c_lst]
      exact loop1 k (ih (by omega) u0 u1 oa.i ob.i k (by omega))
    | ff c c' d d' a a' b b' e e' u0 w1 w2 w3 =>
      simp only [dpC] at hn
      refine evC_both rfl rfl oa ?_
      rw [c_fn]
      exact loop2 k (ih (by omega) w2 u0 ob.l oa.l k (by omega)) (ih (by omega) w1 w3 oa.r ob.r k (by omega))
    | pp c c' d d' a a' b b' e e' u0 w1 w2 w3 =>
      simp only [dpC] at hn
      refine evC_both rfl rfl oa ?_
      rw [c_pair]
      exact loop2 k (ih (by omega) u0 w2 oa.l ob.l k (by omega)) (ih (by omega) w1 w3 oa.r ob.r k (by omega))
    | cc c c' d d' a b e u0 w1 w2 w3 =>
      simp only [dpC] at hn
      refine evC_both rfl rfl oa ?_
      rw [c_cell]
      exact loop2 k (ih (by omega) u0 w2 oa.l ob.l k (by omega)) (ih (by omega) w3 w1 ob.r oa.r k (by omega))
end K11

namespace K11
open PySem L2 EV
/-! ### the law's composition -/
@[simp] theorem ifdec (p : Prop) [Decidable p] : decide (p) = true ↔ p := by simp
/-! ### do_join, compose -/
def DJ (n : Nat) : Prop := ∀ (a b : Co) (A B C : Ty), dpC a + dpC b ≤ n → W a A B → W b B C → OkC a → OkC b → ∀ m, n + 1 ≤ m → callN T hd.G m "do_join" [encC a, encC b] = some (.bool true)
@[simp] theorem as_dj (a b c d x y : D) : asg f_do_join.N [Sl.sh a, Sl.sh b, Sl.sh c, Sl.sh d, Sl.un, Sl.un, Sl.un, Sl.un] (nmT ["first", "second"]) (.tuple [x, y]) =
    some [Sl.sh a, Sl.sh b, Sl.sh c, Sl.sh d, Sl.un, Sl.un, Sl.sh x, Sl.sh y] := by kernel_rfl
theorem src_eq {a b : Co} {A B C : Ty} (w : W a A B) (w' : W b B C) (p : isPl a = true) (m : isMi b = true) : src a = src b := by
  have h1 := (W.src_pl p w).2
  have h2 := W.src_mi m w'
  rw [h1] at h2
  exact Option.some.inj h2
theorem tg_pl {a : Co} (p : isPl a = true) : (tg a == ("fail" : Str)) = false ∧ (tg a == ("from" : Str)) = false ∧ (tg a == ("to" : Str)) = false ∧ a ≠ .any := by
  cases a <;> first | (cases p; done) | simp [tg]
theorem dj_pre {a b : Co} {A B C : Ty} (w : W a A B) (w' : W b B C) (p : isPl a = true) (m : isMi b = true) (k : Nat) :
    callN T hd.G (k + 2) "source" [encC a] = some (.str (n7 (src b))) ∧ callN T hd.G (k + 2) "source" [encC b] = some (.str (n7 (src b))) := by
  refine ⟨?_, ev_source b k m w'.to_pl⟩
  rw [← src_eq w w' p m]
  exact ev_source a k (pl_mi p) w.to_pl
theorem tg_mi {b : Co} (m : isMi b = true) : (tg b == ("from" : Str)) = false ∧ b ≠ .any := by
  cases b <;> first | (cases m; done) | simp [tg]
theorem ev_join : ∀ n, DJ n
  | 0 => by intro a b _ _ _ h; have := dpC1 a; omega
  | n + 1 => by
    intro a b A B C hn w w' oa ob k hk
    have ih0 := ev_join n
    have ih : ∀ {a b : Co} {A B C : Ty}, dpC a + dpC b ≤ n → W a A B → W b B C → OkC a → OkC b → ∀ m, n + 1 ≤ m → callN T hd.G m "do_join" [encC a, encC b] = some (.bool true) := fun {a b A B C} => ih0 a b A B C
    have h2 : 2 ≤ n + 1 := by have := dpC1 a; have := dpC1 b; omega
    obtain ⟨k, rfl⟩ : ∃ j, k = j + 3 := ⟨k - 3, by omega⟩
    cases meet w w' with
    | any b B C w hB =>
      subst hB
      rw [r_do_join, eqAny oa, eqAny ob]
      cases b with
      | any => simp [tg]
      | frm _ _ _ => simp [tg]
      | _ => exact absurd rfl (mi_nh (by rfl) w')
    | fail h l h' b A B C e ne => rw [r_do_join]; simp [tg]
    | frm h l c b A B C hA m w w' =>
      simp only [dpC] at hn
      have i := ih (by omega) w w' oa.f ob (k + 2) (by omega)
      rw [r_do_join, eqAny oa]; simp [tg, i]
    | ta c h A B C hB hC p w =>
      rw [r_do_join, eqAny oa, eqAny ob]; simp [tg]
    | tf c h h' l d A B C hB p w m w' =>
      rw [r_do_join, eqAny oa, eqAny ob]; simp [tg]
    | pt c d h A B C p w hC p' w' =>
      simp only [dpC] at hn
      have i := ih (by omega) w w' oa ob.t (k + 2) (by omega)
      have s := dj_pre (b := .to d h) w ⟨hC, p', w'⟩ p rfl k
      have t := tg_pl p
      rw [r_do_join, eqAny oa, eqAny ob]
      cases a <;> (first | (cases p; done) | skip) <;> simp only [tg] at t <;> simp [tg, i, s.1, s.2]
    | pf c h l h' A B C p w e ne =>
      have s := dj_pre (C := B) (b := .fail h l h') w ⟨e, ne⟩ p rfl k
      rw [r_do_join, eqAny oa, eqAny ob]
      cases a <;> (first | (cases p; done) | skip) <;> simp [tg, s.1, s.2]
    | bb b =>
      have s := dj_pre w w' rfl rfl k
      rw [r_do_join, eqAny oa]
      simp [tg, s.1, s.2]
    | ll c d a b e u0 u1 =>
      have s := dj_pre w w' rfl rfl k
      simp only [dpC] at hn
      have i := ih (by omega) u0 u1 oa.i ob.i (k + 2) (by omega)
      rw [r_do_join, eqAny oa, eqAny ob]
      simp [tg, s.1, s.2, ncs, compM, i]
    | ff c c' d d' a a' b b' e e' u0 w1 w2 w3 =>
      have s := dj_pre w w' rfl rfl k
      simp only [dpC] at hn
      have i := ih (by omega) w2 u0 ob.l oa.l (k + 2) (by omega)
      have j := ih (by omega) w1 w3 oa.r ob.r (k + 2) (by omega)
      rw [r_do_join, eqAny oa, eqAny ob]
      simp [tg, s.1, s.2, ncs, compM, fl, i, j]
    | pp c c' d d' a a' b b' e e' u0 w1 w2 w3 =>
      have s := dj_pre w w' rfl rfl k
      simp only [dpC] at hn
      have i := ih (by omega) u0 w2 oa.l ob.l (k + 2) (by omega)
      have j := ih (by omega) w1 w3 oa.r ob.r (k + 2) (by omega)
      rw [r_do_join, eqAny oa, eqAny ob]
      simp [tg, s.1, s.2, ncs, compM, fl, i, j]
    | cc c c' d d' a b e u0 w1 w2 w3 =>
      have s := dj_pre w w' rfl rfl k
      simp only [dpC] at hn
      have i := ih (by omega) u0 w2 oa.l ob.l (k + 2) (by omega)
      have j := ih (by omega) w3 w1 ob.r oa.r (k + 2) (by omega)
      rw [r_do_join, eqAny oa, eqAny ob]
      simp [tg, s.1, s.2, ncs, compM, fl, i, j]
theorem ev_compose {a b : Co} {A B C : Ty} (w : W a A B) (w' : W b B C) (oa : OkC a) (ob : OkC b) (da : dpC a ≤ 16) (db : dpC b ≤ 16) {k : Nat} (hk : 160 ≤ k) :
    callN T hd.G k "compose" [encC a, encC b] = some (encC (comp a b)) := by
  obtain ⟨k, rfl⟩ : ∃ j, k = j + 1 := ⟨k - 1, by omega⟩
  rw [r_compose, ev_chkC w oa (by omega), ev_chkC w' ob (by omega), ev_join 32 a b A B C (by omega) w w' oa ob k (by omega), ev_comp 32 a b A B C (by omega) w w' oa ob k (by omega)]
  rfl
end K11

namespace K11
open PySem L2 EV
/-! ### sorted sets of labels -/
theorem alikeL (a b : Lab) : PySem.W.alike (encL a) (encL b) = true := by rfl
theorem alikeM (L : List Lab) : ∀ x ∈ L.map encL, ∀ y ∈ L.map encL, PySem.W.alike x y = true := by
  intro x hx y hy
  obtain ⟨a, _, rfl⟩ := List.mem_map.mp hx
  obtain ⟨b, _, rfl⟩ := List.mem_map.mp hy
  exact alikeL a b
def labS (L : List Lab) : List D := (dedE (L.map encL)).mergeSort (PySem.W.dataLe false id)
theorem mem_labS (L : List Lab) (z : D) : z ∈ labS L ↔ z ∈ L.map encL := by
  rw [labS, (List.mergeSort_perm _ _).mem_iff, ded_mem (alikeM L)]
theorem labS_same {L M : List Lab} (h : ∀ l, l ∈ L ↔ l ∈ M) : labS L = labS M := by
  unfold labS
  refine sort_same ((List.perm_ext_iff_of_nodup (ded_nodup (alikeM L)) (ded_nodup (alikeM M))).mpr fun z => ?_) ?_
  · rw [ded_mem (alikeM L), ded_mem (alikeM M), List.mem_map, List.mem_map]
    exact ⟨fun ⟨a, h1, h2⟩ => ⟨a, (h a).mp h1, h2⟩, fun ⟨a, h1, h2⟩ => ⟨a, (h a).mpr h1, h2⟩⟩
  · intro x hx y hy
    exact alikeM L x ((ded_mem (alikeM L) x).mp hx) y ((ded_mem (alikeM L) y).mp hy)
theorem map_of_mem {L : List Lab} : ∀ {zs : List D}, (∀ z ∈ zs, z ∈ L.map encL) → ∃ M : List Lab, zs = M.map encL
  | [], _ => ⟨[], rfl⟩
  | z :: r, h => by
    obtain ⟨M, e⟩ := map_of_mem (zs := r) fun y hy => h y (List.mem_cons_of_mem _ hy)
    obtain ⟨a, _, e2⟩ := List.mem_map.mp (h z List.mem_cons_self)
    exact ⟨a :: M, by rw [List.map_cons, e, e2]⟩
theorem encL_inj {a b : Lab} (h : encL a = encL b) : a = b := by
  have := eqvL a b
  rw [h, eqvL b b] at this
  simpa using this.symm
theorem ded_len : ∀ xs : List D, (dedE xs).length ≤ xs.length
  | [] => Nat.le_refl _
  | x :: r => by
    have := ded_len r
    unfold dedE
    cases r.any fun y => PyData.eqv x y
    · simp; omega
    · simp only [cond_true, List.length_cons]; omega
/-- the labels of a list, once each, in order -/
theorem labS_map (L : List Lab) : ∃ M : List Lab, labS L = M.map encL ∧ (∀ l, l ∈ M ↔ l ∈ L) ∧ M.length ≤ L.length := by
  obtain ⟨M, e⟩ := map_of_mem (L := L) fun z hz => (mem_labS L z).mp hz
  refine ⟨M, e, fun l => ?_, ?_⟩
  · have h1 := mem_labS L (encL l)
    rw [e] at h1
    constructor
    · intro h
      obtain ⟨a, h2, h3⟩ := List.mem_map.mp (h1.mp (List.mem_map.mpr ⟨l, h, rfl⟩))
      rw [← encL_inj h3]; exact h2
    · intro h
      obtain ⟨a, h2, h3⟩ := List.mem_map.mp (h1.mpr (List.mem_map.mpr ⟨l, h, rfl⟩))
      rw [← encL_inj h3]; exact h2
  · have h1 : (labS L).length = M.length := by rw [e, List.length_map]
    have h2 : (labS L).length = (dedE (L.map encL)).length := List.length_mergeSort _
    have h3 := ded_len (L.map encL)
    rw [List.length_map] at h3
    omega
theorem dlesL (n : Nat) : ∀ L : List Lab, dles (n + 1) (L.map encL) = true
  | [] => by simp
  | l :: r => by simp [dleL, dlesL n r]
theorem ss_lab {L : List Lab} (h : L.length < 64) : ssetD [.list (L.map encL)] = some (.list (labS L)) := by
  have e : setOk (L.map encL) = true := by
    unfold setOk
    simp only [Bool.and_eq_true, List.all_eq_true]
    refine ⟨fun x hx y hy => alikeM L x hx y hy, ?_, dlesL 59 L, ?_⟩
    · intro x hx
      obtain ⟨a, _, rfl⟩ := List.mem_map.mp hx
      rfl
    · rw [List.length_map]; exact decide_eq_true h
  show cond (setOk (L.map encL)) _ none = _
  rw [e]; rfl
/-! ### heights, sizes -/
def szC : Co → Nat
  | .any => 1 | .base _ => 1 | .fail _ _ _ => 1 | .two _ c d => 1 + (szC c + szC d) | .lst c => 1 + szC c | .frm _ _ c => 1 + szC c | .to c _ => 1 + szC c
def lbs : Co → List Lab
  | .any => [] | .base _ => [] | .fail _ l _ => [l] | .two _ c d => lbs c ++ lbs d | .lst c => lbs c | .frm _ l c => l :: lbs c | .to c _ => lbs c
theorem lbs_sz : ∀ c, (lbs c).length ≤ szC c
  | .any => Nat.zero_le _ | .base _ => Nat.zero_le _ | .fail _ _ _ => Nat.le_refl _
  | .two _ c d => by have := lbs_sz c; have := lbs_sz d; simp only [lbs, szC, List.length_append]; omega
  | .lst c => by have := lbs_sz c; simp only [lbs, szC]; omega
  | .frm _ _ c => by have := lbs_sz c; simp only [lbs, szC, List.length_cons]; omega
  | .to c _ => by have := lbs_sz c; simp only [lbs, szC]; omega
def gs : Nat → Nat | 0 => 0 | n + 1 => 2 * gs n + 3
theorem gs_mono : ∀ {n m : Nat}, n ≤ m → gs n ≤ gs m
  | 0, _, _ => Nat.zero_le _
  | n + 1, 0, h => by omega
  | n + 1, m + 1, h => by have := gs_mono (Nat.le_of_succ_le_succ h); simp only [gs]; omega
theorem sz_gs : ∀ (c : Co) {A B : Ty}, W c A B → (isPl c = true → szC c + 2 ≤ gs (hgt c)) ∧ (isMi c = true → szC c + 1 ≤ gs (hgt c)) ∧ szC c ≤ gs (hgt c)
  | .any, _, _, _ => ⟨fun h => by (cases h), fun h => by (cases h), by decide⟩
  | .base _, _, _, _ => by simp only [szC, hgt, gs]; omega
  | .fail _ _ _, _, _, _ => ⟨fun h => by (cases h), fun _ => by simp only [szC, hgt, gs]; omega, by simp only [szC, hgt, gs]; omega⟩
  | .two .fn c d, _, _, ⟨_, _, _, _, _, _, w, w'⟩ => by
    have i := sz_gs c w
    have j := sz_gs d w'
    have a := gs_mono (Nat.le_max_left (hgt c) (hgt d))
    have b := gs_mono (Nat.le_max_right (hgt c) (hgt d))
    simp only [szC, hgt, Nat.add_comm 1 (max _ _), gs]; omega
  | .two .pair c d, _, _, ⟨_, _, _, _, _, _, w, w'⟩ => by
    have i := sz_gs c w
    have j := sz_gs d w'
    have a := gs_mono (Nat.le_max_left (hgt c) (hgt d))
    have b := gs_mono (Nat.le_max_right (hgt c) (hgt d))
    simp only [szC, hgt, Nat.add_comm 1 (max _ _), gs]; omega
  | .two .cell c d, _, _, ⟨_, _, _, _, w, w'⟩ => by
    have i := sz_gs c w
    have j := sz_gs d w'
    have a := gs_mono (Nat.le_max_left (hgt c) (hgt d))
    have b := gs_mono (Nat.le_max_right (hgt c) (hgt d))
    simp only [szC, hgt, Nat.add_comm 1 (max _ _), gs]; omega
  | .lst c, _, _, ⟨_, _, _, _, w⟩ => by
    have i := sz_gs c w
    simp only [szC, hgt, Nat.add_comm 1 (hgt _), gs]; omega
  | .frm h l c, _, _, ⟨_, m, w⟩ => by
    have i := sz_gs c w
    have := i.2.1 m
    simp only [szC, hgt]
    exact ⟨fun h => by (cases h), fun h => by (cases h), by omega⟩
  | .to c h, _, _, ⟨_, m, w⟩ => by
    have i := sz_gs c w
    have := i.1 m
    simp only [szC, hgt]
    exact ⟨fun h => by (cases h), fun h => by omega, by omega⟩
theorem lbs_comp : ∀ (n : Nat) {a b : Co} {A B C : Ty}, dpC a + dpC b ≤ n → W a A B → W b B C → ∀ l ∈ lbs (comp a b), l ∈ lbs a ∨ l ∈ lbs b
  | 0, a, b, _, _, _, h, _, _ => by have := dpC1 a; omega
  | n + 1, a, b, A, B, C, hn, w, w' => by
    have ih := @lbs_comp n
    intro l hl
    cases meet w w' with
    | any b B C w hB => rw [c_any] at hl; exact .inr hl
    | fail h l h' b A B C e ne => rw [c_fail] at hl; exact .inl hl
    | frm h l' c b A B C hA m w w' =>
      simp only [dpC] at hn
      rw [c_frm] at hl
      rcases List.mem_cons.mp hl with e | hl
      · exact .inl (List.mem_cons.mpr (.inl e))
      · exact (ih (by omega) w w' l hl).imp (List.mem_cons_of_mem _) id
    | ta c h A B C hB hC p w => rw [c_to_any] at hl; exact .inl hl
    | tf c h h' l' d A B C hB p w m w' =>
      simp only [dpC] at hn
      rw [c_to_frm] at hl
      by_cases e : h = h'
      · subst e
        simp only [if_true] at hl
        exact (ih (by omega) w w' l hl).imp id (List.mem_cons_of_mem _)
      · simp only [e, if_false] at hl
        have : l = l' := by simpa [lbs] using hl
        subst this
        exact .inr List.mem_cons_self
    | pt c d h A B C p w hC p' w' =>
      simp only [dpC] at hn
      rw [c_p_to p] at hl
      exact ih (by omega) w w' l hl
    | pf c h l h' A B C p w e ne => rw [c_p_fail p] at hl; exact .inr hl
    | bb b => rw [c_base] at hl; exact .inl hl
    | ll c d a b e u0 u1 =>
      simp only [dpC] at hn
      rw [c_lst] at hl
      exact ih (by omega) u0 u1 l hl
    | ff c c' d d' a a' b b' e e' u0 w1 w2 w3 =>
      simp only [dpC] at hn
      rw [c_fn] at hl
      simp only [lbs, List.mem_append] at hl ⊢
      rcases hl with hl | hl
      · rcases ih (by omega) w2 u0 l hl with h | h
        · exact .inr (.inl h)
        · exact .inl (.inl h)
      · rcases ih (by omega) w1 w3 l hl with h | h
        · exact .inl (.inr h)
        · exact .inr (.inr h)
    | pp c c' d d' a a' b b' e e' u0 w1 w2 w3 =>
      simp only [dpC] at hn
      rw [c_pair] at hl
      simp only [lbs, List.mem_append] at hl ⊢
      rcases hl with hl | hl
      · rcases ih (by omega) u0 w2 l hl with h | h
        · exact .inl (.inl h)
        · exact .inr (.inl h)
      · rcases ih (by omega) w1 w3 l hl with h | h
        · exact .inl (.inr h)
        · exact .inr (.inr h)
    | cc c c' d d' a b e u0 w1 w2 w3 =>
      simp only [dpC] at hn
      rw [c_cell] at hl
      simp only [lbs, List.mem_append] at hl ⊢
      rcases hl with hl | hl
      · rcases ih (by omega) u0 w2 l hl with h | h
        · exact .inl (.inl h)
        · exact .inr (.inl h)
      · rcases ih (by omega) w3 w1 l hl with h | h
        · exact .inr (.inr h)
        · exact .inl (.inr h)
end K11

namespace K11
open PySem L2 EV
theorem mx1 (a : Int) : bD .max [.list [.int a]] = some (.int a) := rfl
theorem mx2 (a b : Nat) : bD .max [.list [.int (a : Int), .int (b : Int)]] = some (.int ((max a b : Nat) : Int)) := by
  show some (PyData.int (cond (decide ((a : Int) < b)) (b : Int) a)) = _
  by_cases h : a < b
  · rw [decide_eq_true (by omega : (a : Int) < b), Nat.max_eq_right (by omega)]; rfl
  · rw [decide_eq_false (by omega : ¬ (a : Int) < b), Nat.max_eq_left (by omega)]; rfl
theorem mx0 : bD .max [.list [.int 0]] = some (.int 0) := rfl
theorem mx01 (a : Nat) : bD .max [.list [.int 0, .int (a : Int)]] = some (.int (a : Int)) := by
  have := mx2 0 a
  rw [Nat.max_eq_right (Nat.zero_le _)] at this
  exact this
theorem mx02 (a b : Nat) : bD .max [.list [.int 0, .int (a : Int), .int (b : Int)]] = some (.int ((max a b : Nat) : Int)) := by
  show some (PyData.int (cond (decide ((cond (decide ((0 : Int) < a)) (a : Int) 0) < (b : Int))) (b : Int) (cond (decide ((0 : Int) < a)) (a : Int) 0))) = _
  have e : (cond (decide ((0 : Int) < a)) (a : Int) 0) = a := by
    by_cases h : 0 < a
    · rw [decide_eq_true (by omega : (0 : Int) < a)]; rfl
    · rw [decide_eq_false (by omega : ¬ (0 : Int) < a)]; show (0 : Int) = a; omega
  rw [e]
  exact mx2 a b
abbrev FT : D := .list [.str "from", .str "to"]
@[simp] theorem ft2 (g : G2) : cmpD .In (.str (n7 g.h)) FT = some false := by cases g <;> kernel_rfl
@[simp] theorem ft1 : cmpD .In (.str "from") FT = some true := by kernel_rfl
@[simp] theorem ft3 : cmpD .In (.str "to") FT = some true := by kernel_rfl
@[simp] theorem ft4 : cmpD .In (.str "id") FT = some false := by kernel_rfl
@[simp] theorem ft5 : cmpD .In (.str "id?") FT = some false := by kernel_rfl
@[simp] theorem ft6 : cmpD .In (.str "fail") FT = some false := by kernel_rfl
@[simp] theorem ft7 : cmpD .In (.str "list") FT = some false := by kernel_rfl
abbrev IF : D := .list [.str "id", .str "fail"]
@[simp] theorem if2 (g : G2) : cmpD .NotIn (.str (n7 g.h)) IF = some true := by cases g <;> kernel_rfl
@[simp] theorem if4 : cmpD .NotIn (.str "id") IF = some false := by kernel_rfl
@[simp] theorem if5 : cmpD .NotIn (.str "id?") IF = some true := by kernel_rfl
@[simp] theorem if6 : cmpD .NotIn (.str "fail") IF = some false := by kernel_rfl
@[simp] theorem if7 : cmpD .NotIn (.str "list") IF = some true := by kernel_rfl
@[simp] theorem sl0 : slD (encC .any) (some 1) none = some (.tuple []) := by kernel_rfl
@[simp] theorem slb (b : B0) : slD (encC (.base b)) (some 1) none = some (.tuple [.str (n7 b.h)]) := by kernel_rfl
@[simp] theorem slf (h : Hd7) (l : Lab) (c : Co) : slD (encC (.frm h l c)) (some 1) none = some (.tuple [.str (n7 h), encL l, encC c]) := by kernel_rfl
@[simp] theorem slt (c : Co) (h : Hd7) : slD (encC (.to c h)) (some 1) none = some (.tuple [encC c, .str (n7 h)]) := by kernel_rfl
@[simp] theorem slx (h h' : Hd7) (l : Lab) : slD (encC (.fail h l h')) (some 1) none = some (.tuple [.str (n7 h), encL l, .str (n7 h')]) := by kernel_rfl
@[simp] theorem aL0 : binD .Add (.list [.int 0]) (.list []) = some (.list [.int 0]) := by kernel_rfl
@[simp] theorem aL1 (x : D) : binD .Add (.list [.int 0]) (.list [x]) = some (.list [.int 0, x]) := by kernel_rfl
@[simp] theorem aL2 (x y : D) : binD .Add (.list [.int 0]) (.list [x, y]) = some (.list [.int 0, x, y]) := by kernel_rfl
theorem ev_ht : ∀ (c : Co) (m : Nat), dpC c ≤ m → callN T hd.G m "height_of" [encC c] = some (.int (hgt c : Int))
  | c, 0, h => by have := dpC1 c; omega
  | .any, m + 1, _ => by rw [r_height_of]; simp [tg, hgt]
  | .base b, m + 1, _ => by rw [r_height_of]; simp [tg, hgt]
  | .fail _ _ _, m + 1, _ => by rw [r_height_of]; simp [tg, hgt]
  | .two g c d, m + 1, hk => by
    simp only [dpC] at hk
    rw [r_height_of]; simp [tg, hgt, compM, mx2, ev_ht c m (by omega), ev_ht d m (by omega)]
  | .lst c, m + 1, hk => by
    simp only [dpC] at hk
    rw [r_height_of]; simp [tg, hgt, compM, mx1, ev_ht c m (by omega)]
  | .frm _ _ c, m + 1, hk => by
    simp only [dpC] at hk
    rw [r_height_of]; simp [tg, hgt, ev_ht c m (by omega)]
  | .to c _, m + 1, hk => by
    simp only [dpC] at hk
    rw [r_height_of]; simp [tg, hgt, ev_ht c m (by omega)]
theorem compM_all (xs : List D) : compM (fun x => some (some x)) xs = some xs := by
  induction xs with
  | nil => rfl
  | cons x r ih => unfold compM; rw [ih]; rfl
theorem fewL {n : Nat} (h : n < 1000) : decide (n ≤ few) = true := decide_eq_true (Nat.le_trans (Nat.le_of_lt h) (by decide))
theorem ltL {n : Nat} (h : n < 1000) : decide (n < few) = true := decide_eq_true (Nat.lt_of_lt_of_le h (by decide))
theorem limL {xs : List D} (h : xs.length < 1000) : lim (some xs) = some (.list xs) := by
  show cond (decide (xs.length ≤ few)) _ none = _
  rw [fewL h]; rfl
end K11

namespace EV
open PySem L2
theorem forL_nil (g : List Sl → D → Option (List Sl)) (body : List Sl → Option Fl) (σ : List Sl) : forL g body [] σ = some (.next σ) := eq_of_heq (heq_of_eq rfl)
theorem forL_next {g : List Sl → D → Option (List Sl)} {body : List Sl → Option Fl} {x : D} {r : List D} {σ σ1 σ2 : List Sl} (h1 : g σ x = some σ1) (h2 : body σ1 = some (.next σ2)) :
    forL g body (x :: r) σ = forL g body r σ2 := by
  show (g σ x).bind _ = _
  rw [h1]
  show (body σ1).bind _ = _
  rw [h2]; rfl
theorem addLL {xs ys : List D} (h : xs.length + ys.length < 1000) : binD .Add (.list xs) (.list ys) = some (.list (xs ++ ys)) := by
  show cond (decide (xs.length + ys.length ≤ few)) _ none = _
  rw [decide_eq_true (Nat.le_trans (Nat.le_of_lt h) (by decide))]; rfl
end EV
namespace K11
open PySem L2 EV
/-! ### the law's labels -/
theorem isIntC (c : Co) : (((bD .len [encC c]).bind fun x24 => cmpD .Eq x24 (PyData.int 2)).bind fun k21 => cond k21 (((ixD (encC c) (PyData.int 0)).bind fun x22 => (isTy .int x22).map PyData.bool).bind fun x23 => truD x23) (some false)) = some false := by
  cases c <;> rfl
/-! ### greatest sizes -/
end K11

namespace EV
open PySem L2
theorem repr_of {d : D} (h1 : dle 60 d = true) (h2 : d.canLay0 = true) (h3 : d.weight ≤ 100000) (h4 : d.intsShort 13 = true) (h5 : d.showable = true) : bD .repr [d] = some (.str d.shown) := by
  have hd : d.depth ≤ 64 := Nat.le_trans (dle_depth 60 d h1) (by omega)
  have hl : PyData.layable0 d = true := by
    unfold PyData.layable0
    rw [h2, decide_eq_true hd, decide_eq_true (show d.weight ≤ 2 ^ 20 by omega)]; rfl
  show cond (dle 60 d && (PyData.layable0 d && (d.intsShort 13 && d.showable))) _ none = _
  rw [h1, hl, h4, h5]; rfl
theorem ne_strs (x : Str) : cmpD .NotEq (.str x) (.str x) = some false := by
  show (cond (dle 60 (.str x) && dle 60 (.str x)) (some (PyData.eqv (.str x) (.str x))) none).map _ = _
  simp [PyData.eqv]
end EV
namespace K11
open PySem L2 EV
/-! ### what is shown -/
theorem int_ok : ∀ i : Nat, i < 100 → PyData.weight (.int (i : Int)) ≤ 8 ∧ PyData.intsShort 13 (.int (i : Int)) = true ∧ PyData.showable (.int (i : Int)) = true := by decide +kernel
theorem n7_ok (h : Hd7) : PyData.canLay0 (.str (n7 h)) = true ∧ (n7 h).cps.size ≤ 4 := by cases h <;> decide +kernel
theorem G2.ok (g : G2) : PyData.canLay0 (.str (n7 g.h)) = true ∧ (n7 g.h).cps.size ≤ 4 := n7_ok g.h
theorem tok : PyData.canLay0 (.str "id?") = true ∧ PyData.canLay0 (.str "id") = true ∧ PyData.canLay0 (.str "list") = true ∧ PyData.canLay0 (.str "from") = true ∧ PyData.canLay0 (.str "to") = true ∧ PyData.canLay0 (.str "fail") = true := by decide +kernel
theorem tsz : ("id?" : Str).cps.size ≤ 4 ∧ ("id" : Str).cps.size ≤ 4 ∧ ("list" : Str).cps.size ≤ 4 ∧ ("from" : Str).cps.size ≤ 4 ∧ ("to" : Str).cps.size ≤ 4 ∧ ("fail" : Str).cps.size ≤ 4 := by decide +kernel
theorem encL_shape {l : Lab} (h : l.n < 90) : (encL l).canLay0 = true ∧ (encL l).weight ≤ 10 ∧ (encL l).intsShort 13 = true ∧ (encL l).showable = true := by
  obtain ⟨h1, h2, h3⟩ := int_ok l.n (by omega)
  refine ⟨by simp [encL, PyData.canLay0, PyData.canLayAll0], ?_, by simp [encL, PyData.intsShort, PyData.intsShortAll] at h2 ⊢; exact h2, by simp [encL, PyData.showable, PyData.showableAll] at h3 ⊢; exact h3⟩
  simp only [encL, PyData.weight, PyData.weightAll] at h1 ⊢
  omega
def Sh (d : D) (n : Nat) : Prop := d.canLay0 = true ∧ d.weight ≤ n ∧ d.intsShort 13 = true ∧ d.showable = true
theorem Sh.t1 {a : D} {n : Nat} (ha : Sh a n) : Sh (.tuple [a]) (n + 1) := by
  obtain ⟨a1, a2, a3, a4⟩ := ha
  refine ⟨by simp [PyData.canLay0, PyData.canLayAll0, a1], ?_, by simp [PyData.intsShort, PyData.intsShortAll, a3], by simp [PyData.showable, PyData.showableAll, a4]⟩
  simp only [PyData.weight, PyData.weightAll]; omega
theorem Sh.t2 {a b : D} {n m : Nat} (ha : Sh a n) (hb : Sh b m) : Sh (.tuple [a, b]) (n + m + 2) := by
  obtain ⟨a1, a2, a3, a4⟩ := ha
  obtain ⟨b1, b2, b3, b4⟩ := hb
  refine ⟨by simp [PyData.canLay0, PyData.canLayAll0, a1, b1], ?_, by simp [PyData.intsShort, PyData.intsShortAll, a3, b3], by simp [PyData.showable, PyData.showableAll, a4, b4]⟩
  simp only [PyData.weight, PyData.weightAll]; omega
theorem Sh.t3 {a b c : D} {n m k : Nat} (ha : Sh a n) (hb : Sh b m) (hc : Sh c k) : Sh (.tuple [a, b, c]) (n + m + k + 3) := by
  obtain ⟨a1, a2, a3, a4⟩ := ha
  obtain ⟨b1, b2, b3, b4⟩ := hb
  obtain ⟨c1, c2, c3, c4⟩ := hc
  refine ⟨by simp [PyData.canLay0, PyData.canLayAll0, a1, b1, c1], ?_, by simp [PyData.intsShort, PyData.intsShortAll, a3, b3, c3], by simp [PyData.showable, PyData.showableAll, a4, b4, c4]⟩
  simp only [PyData.weight, PyData.weightAll]; omega
theorem Sh.t4 {a b c d : D} {n m k j : Nat} (ha : Sh a n) (hb : Sh b m) (hc : Sh c k) (hd' : Sh d j) : Sh (.tuple [a, b, c, d]) (n + m + k + j + 4) := by
  obtain ⟨a1, a2, a3, a4⟩ := ha
  obtain ⟨b1, b2, b3, b4⟩ := hb
  obtain ⟨c1, c2, c3, c4⟩ := hc
  obtain ⟨d1, d2, d3, d4⟩ := hd'
  refine ⟨by simp [PyData.canLay0, PyData.canLayAll0, a1, b1, c1, d1], ?_, by simp [PyData.intsShort, PyData.intsShortAll, a3, b3, c3, d3], by simp [PyData.showable, PyData.showableAll, a4, b4, c4, d4]⟩
  simp only [PyData.weight, PyData.weightAll]; omega
theorem Sh.s {x : Str} (h1 : PyData.canLay0 (.str x) = true) (h2 : x.cps.size ≤ 4) : Sh (.str x) 4 := ⟨h1, h2, rfl, rfl⟩
theorem Sh.h (h : Hd7) : Sh (.str (n7 h)) 4 := Sh.s (n7_ok h).1 (n7_ok h).2
theorem Sh.le {d : D} {n m : Nat} (h : Sh d n) (le : n ≤ m) : Sh d m := ⟨h.1, Nat.le_trans h.2.1 le, h.2.2⟩
theorem encC_shape : ∀ c : Co, (∀ l ∈ lbs c, l.n < 90) → Sh (encC c) (30 * szC c)
  | .any, _ => (Sh.t1 (Sh.s tok.1 tsz.1)).le (by simp only [szC]; omega)
  | .base b, _ => (Sh.t2 (Sh.s tok.2.1 tsz.2.1) (Sh.h b.h)).le (by simp only [szC]; omega)
  | .two g c d, h => (Sh.t3 (Sh.h g.h) (encC_shape c fun l hl => h l (List.mem_append_left _ hl)) (encC_shape d fun l hl => h l (List.mem_append_right _ hl))).le (by simp only [szC]; omega)
  | .lst c, h => (Sh.t2 (Sh.s tok.2.2.1 tsz.2.2.1) (encC_shape c h)).le (by simp only [szC]; omega)
  | .frm x l c, h => (Sh.t4 (Sh.s tok.2.2.2.1 tsz.2.2.2.1) (Sh.h x) (encL_shape (h l List.mem_cons_self)) (encC_shape c fun l hl => h l (List.mem_cons_of_mem _ hl))).le (by simp only [szC]; omega)
  | .to c x, h => (Sh.t3 (Sh.s tok.2.2.2.2.1 tsz.2.2.2.2.1) (encC_shape c h) (Sh.h x)).le (by simp only [szC]; omega)
  | .fail x l y, h => (Sh.t4 (Sh.s tok.2.2.2.2.2 tsz.2.2.2.2.2) (Sh.h x) (encL_shape (h l (by simp [lbs]))) (Sh.h y)).le (by simp only [szC]; omega)
theorem rp_C {c : Co} {A B : Ty} (w : W c A B) (h : hgt c ≤ 4) (hl : ∀ l ∈ lbs c, l.n < 90) : bD .repr [encC c] = some (.str (encC c).shown) := by
  obtain ⟨a1, a2, a3, a4⟩ := encC_shape c hl
  have d := (dp_hgt c w).2.2
  have s := (sz_gs c w).2.2
  have g := gs_mono h
  have e4 : gs 4 = 45 := rfl
  exact repr_of (dleC c 60 (by omega)) a1 (by omega) a3 a4
/-! ### what is asked of one coercion -/
structure Gd (c : Co) (A B : Ty) : Prop where
  w : W c A B
  h : hgt c ≤ 4
  l : ∀ l ∈ lbs c, l.n < 90
theorem Gd.o {c : Co} {A B : Ty} (g : Gd c A B) : OkC c := ok_hgt g.w (by have := g.h; omega)
theorem Gd.d {c : Co} {A B : Ty} (g : Gd c A B) : dpC c ≤ 12 := by have := (dp_hgt c g.w).2.2; have := g.h; omega
theorem Gd.s {c : Co} {A B : Ty} (g : Gd c A B) : szC c ≤ gs (hgt c) := (sz_gs c g.w).2.2
theorem Gd.s45 {c : Co} {A B : Ty} (g : Gd c A B) : szC c ≤ 45 := by
  have := g.s
  have := gs_mono g.h
  have e4 : gs 4 = 45 := rfl
  omega
theorem Gd.l45 {c : Co} {A B : Ty} (g : Gd c A B) : (lbs c).length < 64 := by
  have := lbs_sz c
  have := g.s45
  omega
theorem Gd.comp {a b : Co} {A B C : Ty} (g : Gd a A B) (g' : Gd b B C) : Gd (comp a b) A C where
  w := g.w.comp g'.w
  h := by have := W.hgt g.w g'.w; have := g.h; have := g'.h; omega
  l := fun l hl => by
    rcases lbs_comp _ (Nat.le_refl _) g.w g'.w l hl with h | h
    · exact g.l l h
    · exact g'.l l h
theorem is_true : cmpD .IsNot (.bool true) (.bool true) = some false := by kernel_rfl
theorem is_false : cmpD .IsNot (.bool false) (.bool false) = some false := by kernel_rfl
theorem ev_height {c : Co} {A B : Ty} (g : Gd c A B) {k : Nat} (hk : 160 ≤ k) : callN T hd.G k "height" [encC c] = some (.int (hgt c : Int)) := by
  obtain ⟨k, rfl⟩ : ∃ j, k = j + 1 := ⟨k - 1, by omega⟩
  have := g.d
  rw [r_height, ev_chkC g.w g.o (by omega), ev_ht c k (by omega)]; rfl
/-! ### labels that are not new -/
theorem compM_none {f : D → Option (Option D)} : ∀ {xs : List D}, (∀ x ∈ xs, f x = some none) → compM f xs = some []
  | [], _ => rfl
  | x :: r, h => by
    have i := compM_none (f := f) (xs := r) fun y hy => h y (List.mem_cons_of_mem _ hy)
    have h1 := h x List.mem_cons_self
    unfold compM
    rw [h1, obs1, i]; rfl
end K11

namespace EV
open PySem L2
theorem atI_nat {α : Type} {xs : List α} {i : Int} {x : α} (h0 : 0 ≤ i) (h : xs[i.toNat]? = some x) : L2.atI xs i = some x := by
  have hl := (List.getElem?_eq_some_iff.mp h).1
  unfold L2.atI ixN
  have h1 : i < (xs.length : Int) := by omega
  rw [if_pos h0, if_pos h1]
  exact h
theorem ix_lst {xs : List D} {i : Int} {x : D} (h0 : 0 ≤ i) (h : xs[i.toNat]? = some x) : ixD (.list xs) (.int i) = some x := atI_nat h0 h
theorem forL_inv {g : List Sl → D → Option (List Sl)} {body : List Sl → Option Fl} (I : Nat → List Sl → Prop) : ∀ (xs : List D) (i : Nat) (σ : List Sl), I i σ →
    (∀ j (hj : j < xs.length) σ, I (i + j) σ → ∃ σ1, g σ xs[j] = some σ1 ∧ ∃ σ2, body σ1 = some (.next σ2) ∧ I (i + j + 1) σ2) → ∃ σ', forL g body xs σ = some (.next σ') ∧ I (i + xs.length) σ'
  | [], i, σ, h, _ => ⟨σ, rfl, h⟩
  | x :: r, i, σ, h, st => by
    obtain ⟨σ1, h1, σ2, h2, h3⟩ := st 0 (Nat.succ_pos _) σ h
    obtain ⟨σ', h4, h5⟩ := forL_inv I r (i + 1) σ2 h3 fun j hj σ hI => by
      have := st (j + 1) (Nat.succ_lt_succ hj) σ (by rw [show i + (j + 1) = i + 1 + j by omega]; exact hI)
      rw [show i + (j + 1) + 1 = i + 1 + j + 1 by omega] at this
      exact this
    refine ⟨σ', ?_, by rw [List.length_cons, show i + (r.length + 1) = i + 1 + r.length by omega]; exact h5⟩
    unfold forL
    have h1 : g σ x = some σ1 := h1
    rw [h1, Option.bind_some, h2]
    exact h4
@[simp] theorem len_l (xs : List D) : bD .len [.list xs] = some (.int xs.length) := eq_of_heq (heq_of_eq rfl)
@[simp] theorem min_i (i j : Int) : bD .min [.int i, .int j] = some (.int (cond (decide (j < i)) j i)) := eq_of_heq (heq_of_eq rfl)
@[simp] theorem abs_i (i : Int) : bD .abs [.int i] = some (.int (cond (decide (i < 0)) (-i) i)) := eq_of_heq (heq_of_eq rfl)
@[simp] theorem int_i (i : Int) : bD .int [.int i] = some (.int i) := eq_of_heq (heq_of_eq rfl)
@[simp] theorem add_i (i j : Int) : binD .Add (.int i) (.int j) = some (.int (i + j)) := eq_of_heq (heq_of_eq rfl)
@[simp] theorem sub_i (i j : Int) : binD .Sub (.int i) (.int j) = some (.int (i - j)) := eq_of_heq (heq_of_eq rfl)
@[simp] theorem lt_i (i j : Int) : cmpD .Lt (.int i) (.int j) = some (decide (i < j)) := eq_of_heq (heq_of_eq rfl)
@[simp] theorem le_i (i j : Int) : cmpD .LtE (.int i) (.int j) = some (decide (i ≤ j)) := eq_of_heq (heq_of_eq rfl)
@[simp] theorem gt_i (i j : Int) : cmpD .Gt (.int i) (.int j) = some (decide (j < i)) := eq_of_heq (heq_of_eq rfl)
@[simp] theorem ge_i (i j : Int) : cmpD .GtE (.int i) (.int j) = some (decide (j ≤ i)) := eq_of_heq (heq_of_eq rfl)
@[simp] theorem eq_i (i j : Int) : cmpD .Eq (.int i) (.int j) = some (i == j) := eq_of_heq (heq_of_eq rfl)
@[simp] theorem ne_i (i j : Int) : cmpD .NotEq (.int i) (.int j) = some (!(i == j)) := eq_of_heq (heq_of_eq rfl)
theorem mulR (i j : Int) (h : small64 j = true) : binD .Mult (.int i) (.int j) = some (.int (i * j)) := by
  show cond (small64 i || small64 j) _ none = _
  rw [h, Bool.or_true]; rfl
theorem mulL (i j : Int) (h : small64 i = true) : binD .Mult (.int i) (.int j) = some (.int (i * j)) := by
  show cond (small64 i || small64 j) _ none = _
  rw [h, Bool.true_or]; rfl
theorem modP (i j : Int) (h : 0 < j) : binD .Mod (.int i) (.int j) = some (.int (i % j)) := by
  show cond (decide (0 < j)) _ none = _
  rw [decide_eq_true h]; rfl
theorem divP (i j : Int) (h : 0 < j) (h2 : j < 1073741824) : binD .FloorDiv (.int i) (.int j) = some (.int (i / j)) := by
  show cond (decide (0 < j) && decide (j < 1073741824)) _ none = _
  rw [decide_eq_true h, decide_eq_true h2]; rfl
theorem rng1_i (j : Int) (h : small62 j = true) : rng1 (.int j) = some (intRange 0 j.toNat) := by
  show cond (small62 j) _ none = _
  rw [h]; rfl
theorem pow18 : binD .Pow (.int 10) (.int 18) = some (.int 1000000000000000000) := by kernel_rfl
theorem range_at {n : Nat} {lo : Int} {j : Nat} (h : j < (intRange lo n).length) : (intRange lo n)[j] = .int (lo + j) := (intRange_get n lo j _ (List.getElem?_eq_getElem h)).2
end EV
namespace K11
open PySem L2 EV
/-- what the draws are -/
structure Dr (ds : List Int) : Prop where
  pos : ∀ d ∈ ds, 0 ≤ d
  few : ds.length ≤ 3780
theorem Dr.app {ds : List Int} {n : Nat} {d : Int} (h : (∀ d ∈ ds, 0 ≤ d) ∧ ds.length ≤ n) (h0 : 0 ≤ d) : (∀ x ∈ ds ++ [d], 0 ≤ x) ∧ (ds ++ [d]).length ≤ n + 1 := by
  refine ⟨fun x hx => ?_, by rw [List.length_append]; exact Nat.succ_le_succ h.2⟩
  rcases List.mem_append.mp hx with hx | hx
  · exact h.1 x hx
  · rw [List.mem_singleton.mp hx]; exact h0
theorem few_lt {n : Nat} (h : n < 100000) : decide (n < EV.few) = true := decide_eq_true h
theorem draws_in (k : Nat) (w0 : D) (w2 : D) (s5 : Sl) (ds : List Int) (r : Int) (s4 : Sl) (n : Nat) (hr : 0 ≤ r) (h : (∀ d ∈ ds, 0 ≤ d) ∧ ds.length ≤ n) (hn : n ≤ 3780) :
    ∃ σ', forL (fun σ x => asg f__law_draws.N σ (forT (stAt (ifA (stAt (forB (stAt f__law_draws.body 1)) 1)) 0)) x) (fun σ => exs ⟨f__law_draws.N, hd.G, callN T hd.G k⟩ 52 σ (forB (stAt (ifA (stAt (forB (stAt f__law_draws.body 1)) 1)) 0))) (intRange 0 60) [Sl.sh w0, Sl.ow (ds.map .int), Sl.sh w2, Sl.sh (.int r), s4, s5] = some (.next σ') ∧
      ∃ (es : List Int) (r' : Int) (t4 : Sl), σ' = [Sl.sh w0, Sl.ow (es.map .int), Sl.sh w2, Sl.sh (.int r'), t4, s5] ∧ (∀ d ∈ es, 0 ≤ d) ∧ es.length ≤ n + 60 := by
  have := forL_inv (g := fun σ x => asg f__law_draws.N σ (forT (stAt (ifA (stAt (forB (stAt f__law_draws.body 1)) 1)) 0)) x) (body := fun σ => exs ⟨f__law_draws.N, hd.G, callN T hd.G k⟩ 52 σ (forB (stAt (ifA (stAt (forB (stAt f__law_draws.body 1)) 1)) 0)))
    (fun j σ => ∃ (es : List Int) (r' : Int) (t4 : Sl), σ = [Sl.sh w0, Sl.ow (es.map .int), Sl.sh w2, Sl.sh (.int r'), t4, s5] ∧ 0 ≤ r' ∧ (∀ d ∈ es, 0 ≤ d) ∧ es.length ≤ n + j)
    (intRange 0 60) 0 [Sl.sh w0, Sl.ow (ds.map .int), Sl.sh w2, Sl.sh (.int r), s4, s5] ⟨ds, r, s4, rfl, hr, h.1, h.2⟩ ?_
  · obtain ⟨σ', h1, es, r', t4, h2, _, h3, h4⟩ := this
    exact ⟨σ', h1, es, r', t4, h2, h3, by rw [intRange_length] at h4; omega⟩
  · rintro j hj σ ⟨es, r', t4, rfl, h0, h1, h2⟩
    rw [intRange_length] at hj
    refine ⟨_, r__law_draws_1b1t0g _ _ _ _ _ _ _, ?_⟩
    simp only [r__law_draws_1b1t0b]
    by_cases hp : 0 < r'
    · have hl : decide ((es.map PyData.int).length < EV.few) = true := few_lt (by rw [List.length_map]; omega)
      simp only [rd, Sl.val, cond_true, Option.bind_some, gt_i, decide_eq_true hp, int_i, modP _ 65536 (by decide), divP _ 65536 (by decide) (by decide), hl]
      have hm : es.map PyData.int ++ [PyData.int (r' % 65536)] = (es ++ [r' % 65536]).map PyData.int := by rw [List.map_append]; rfl
      rw [hm]
      exact ⟨_, rfl, es ++ [r' % 65536], r' / 65536, _, rfl, Int.ediv_nonneg h0 (by decide), Dr.app ⟨h1, h2⟩ (Int.emod_nonneg _ (by decide))⟩
    · simp only [rd, Sl.val, cond_true, cond_false, Option.bind_some, gt_i, decide_eq_false hp]
      exact ⟨_, rfl, es, r', _, rfl, h0, h1, by omega⟩
theorem ix_ns {ns : List Int} {j : Nat} (h : j < ns.length) : ixD (.list (ns.map .int)) (.int (0 + (j : Int))) = some (.int ns[j]) :=
  ix_lst (by omega) (by
    have e : (0 + (j : Int)).toNat = j := by omega
    rw [e, List.getElem?_map, List.getElem?_eq_getElem h]; rfl)
theorem absC (i : Int) : cond (decide (i < 0)) (-i) i = (i.natAbs : Int) := by
  by_cases h : i < 0
  · rw [decide_eq_true h, cond_true]; omega
  · rw [decide_eq_false h, cond_false]; omega
theorem draws_z (k : Nat) (s0 s1 s2 s3 s4 s5 : Sl) : exsK ⟨f__law_draws.N, hd.G, callN T hd.G k⟩ 53 [s0, s1, s2, s3, s4, s5] ((ifA (stAt (forB (stAt f__law_draws.body 1)) 1)).drop 1) (fun fl16 => match fl16 with | .next σ15 => exsK ⟨f__law_draws.N, hd.G, callN T hd.G k⟩ 55 σ15 ((forB (stAt f__law_draws.body 1)).drop 2) some | fl16 => some fl16) =
    some (Fl.next [s0, s1, s2, s3, s4, s5]) := by kernel_rfl
theorem dr_xs (ns : List Int) : ∃ m : Nat, m ≤ 63 ∧ m ≤ ns.length ∧ (((((bD .len [.list (ns.map .int)]).bind fun x5 => some ([x5])).bind fun ys6 => some ((PyData.int 63) :: ys6)).bind fun ds7 => bD .min ds7).bind fun x8 => rng1 x8) = some (intRange 0 m) := by
  have h62 : ∀ n : Nat, n ≤ 63 → small62 (n : Int) = true := fun n h => by
    unfold small62
    rw [Bool.and_eq_true]
    exact ⟨decide_eq_true (by omega), decide_eq_true (by omega)⟩
  simp only [len_l, List.length_map, Option.bind_some, min_i]
  by_cases h : (ns.length : Int) < 63
  · exact ⟨ns.length, by omega, Nat.le_refl _, by rw [decide_eq_true h, cond_true, rng1_i _ (h62 _ (by omega))]; rfl⟩
  · exact ⟨63, Nat.le_refl _, by omega, by rw [decide_eq_false h, cond_false]; kernel_rfl⟩
def cD (k : Nat) : Cfg := ⟨f__law_draws.N, hd.G, callN T hd.G k⟩
def tD1 : Expr := forT (stAt f__law_draws.body 1)
def bD1 : List Stmt := forB (stAt f__law_draws.body 1)
def tD2 : Expr := forT (stAt (ifA (stAt (forB (stAt f__law_draws.body 1)) 1)) 0)
def bD2 : List Stmt := forB (stAt (ifA (stAt (forB (stAt f__law_draws.body 1)) 1)) 0)
/-- one number of the script, greater -/
theorem dr_big (k : Nat) (ns : List Int) (j n : Nat) (hj : j < ns.length) (es : List Int) (s3 s4 s5 : Sl) (h : (∀ d ∈ es, 0 ≤ d) ∧ es.length ≤ n) (hn : n ≤ 3720) :
    ∃ σ', exs ⟨f__law_draws.N, hd.G, callN T hd.G k⟩ 57 [Sl.sh (.list (ns.map .int)), Sl.ow (es.map .int), Sl.sh (.int (0 + (j : Int))), s3, s4, s5] (forB (stAt f__law_draws.body 1)) = some (.next σ') ∧
      ∃ (fs : List Int) (t3 t4 t5 : Sl), σ' = [Sl.sh (.list (ns.map .int)), Sl.ow (fs.map .int), Sl.sh (.int (0 + (j : Int))), t3, t4, t5] ∧ (∀ d ∈ fs, 0 ≤ d) ∧ fs.length ≤ n + 60 := by
  have e1 : (((ixD (.list (ns.map .int)) (.int (0 + (j : Int)))).bind fun x12 => some ([x12])).bind fun ds13 => bD .abs ds13) = some (.int (ns[j].natAbs : Int)) := by
    rw [ix_ns hj, obs1, obs1, abs_i, absC]
  rw [r__law_draws_1b, e1, obs1, pow18, obs1, ge_i, obs1]
  by_cases hp : (1000000000000000000 : Int) ≤ (ns[j].natAbs : Int)
  · have e60 : rng1 (PyData.int 60) = some (intRange 0 60) := by kernel_rfl
    obtain ⟨σ', q1, fs, r', t4, rfl, q2, q3⟩ := draws_in k (.list (ns.map .int)) (.int (0 + (j : Int))) s5 es (ns[j].natAbs : Int) s4 n (by omega) h (by omega)
    rw [decide_eq_true hp, ct, e60, obs1, q1, obs1]
    refine ⟨_, draws_z _ _ _ _ _ _ _, fs, _, _, _, rfl, q2, q3⟩
  · rw [decide_eq_false hp, cf]
    have l1 : decide ((es.map PyData.int).length < EV.few) = true := few_lt (by rw [List.length_map]; omega)
    have l2 : ∀ x : D, decide ((es.map PyData.int ++ [x]).length < EV.few) = true := fun x => few_lt (by rw [List.length_append, List.length_map, List.length_singleton]; omega)
    have hm : ∀ x y : Int, (es.map PyData.int ++ [PyData.int x]) ++ [PyData.int y] = (es ++ [x] ++ [y]).map PyData.int := fun x y => by simp
    have app2 : ∀ x y : Int, (∀ d ∈ es ++ [x % 65536] ++ [y % 32768], 0 ≤ d) ∧ (es ++ [x % 65536] ++ [y % 32768]).length ≤ n + 1 + 1 := fun x y =>
      Dr.app (Dr.app h (Int.emod_nonneg x (by omega))) (Int.emod_nonneg y (by omega))
    simp only [mulR _ 48271 rfl, mulR _ 69621 rfl, mulR _ 16807 rfl, mulL 11 _ rfl, add_i, obs1, int_i, modP _ 2147483647 (by decide), modP _ 2147483629 (by decide), modP _ 65536 (by decide), modP _ 32768 (by decide),
      divP _ 65536 (by decide) (by decide), l1, l2, ct, hm]
    exact ⟨_, rfl, _, _, _, _, rfl, (app2 _ _).1, Nat.le_trans (app2 _ _).2 (by omega)⟩
theorem ev_draws (ns : List Int) (k : Nat) : ∃ ds, callN T hd.G (k + 1) "_law_draws" [.list (ns.map .int)] = some (.list (ds.map .int)) ∧ Dr ds := by
  obtain ⟨m, hm1, hm2, hm⟩ := dr_xs ns
  rw [r__law_draws, hm, obs1]
  have := forL_inv (g := fun σ x => asg f__law_draws.N σ (forT (stAt f__law_draws.body 1)) x) (body := fun σ => exs ⟨f__law_draws.N, hd.G, callN T hd.G k⟩ 57 σ (forB (stAt f__law_draws.body 1)))
    (fun j σ => ∃ (es : List Int) (s2 s3 s4 s5 : Sl), σ = [Sl.sh (.list (ns.map .int)), Sl.ow (es.map .int), s2, s3, s4, s5] ∧ (∀ d ∈ es, 0 ≤ d) ∧ es.length ≤ 60 * j)
    (intRange 0 m) 0 [Sl.sh (.list (ns.map .int)), Sl.ow [], Sl.un, Sl.un, Sl.un, Sl.un] ⟨[], _, _, _, _, rfl, nofun, Nat.le_refl _⟩ ?_
  · obtain ⟨σ', h1, es, s2, s3, s4, s5, rfl, h3, h4⟩ := this
    rw [intRange_length] at h4
    refine ⟨es, ?_, h3, by omega⟩
    rw [h1, obs1]
    exact r__law_draws_1a k _ _ _ _ _ _
  · rintro j hj σ ⟨es, s2, s3, s4, s5, rfl, h1, h2⟩
    have hx := range_at hj
    rw [intRange_length] at hj
    refine ⟨_, r__law_draws_1g _ _ _ _ _ _ _, ?_⟩
    rw [hx]
    obtain ⟨σ', q1, fs, t3, t4, t5, rfl, q2, q3⟩ := dr_big k ns j (60 * (0 + j)) (by omega) es s3 s4 s5 ⟨h1, h2⟩ (by omega)
    exact ⟨_, q1, fs, _, _, _, _, rfl, q2, by omega⟩
/-- a number of the draws -/
theorem ev_mix {ds : List Int} (h : Dr ds) (k : Nat) (i m : Int) (hi : 0 ≤ i) (hm : 0 < m) : ∃ r, callN T hd.G (k + 1) "_law_mix" [.list (ds.map .int), .int i, .int m] = some (.int r) ∧ 0 ≤ r ∧ r < m := by
  rw [r__law_mix]
  have fin : ∀ x : Int, ∃ r : Int, some (PyData.int (x % m)) = some (PyData.int r) ∧ 0 ≤ r ∧ r < m := fun x => ⟨_, rfl, Int.emod_nonneg _ (by omega), Int.emod_lt_of_pos _ hm⟩
  simp only [len_l, List.length_map, Option.bind_some, gt_i, lt_i, int_i]
  by_cases hl : (0 : Int) < (ds.length : Int)
  · have q0 : 0 ≤ i % (ds.length : Int) := Int.emod_nonneg _ (by omega)
    have q1 : i % (ds.length : Int) < (ds.length : Int) := Int.emod_lt_of_pos _ hl
    have ix : ixD (.list (ds.map .int)) (.int (i % (ds.length : Int))) = some (.int (ds[(i % (ds.length : Int)).toNat]'(by omega))) :=
      ix_lst q0 (by rw [List.getElem?_map, List.getElem?_eq_getElem (by omega)]; rfl)
    simp only [decide_eq_true hl, cond_true, modP _ _ hl, Option.bind_some, ix]
    by_cases hk : i < (ds.length : Int)
    · simp only [decide_eq_true hk, cond_true, int_i, Option.bind_some, modP _ _ hm]
      exact fin _
    · simp only [decide_eq_false hk, cond_false, mulR _ 7919 rfl, mulR _ 104729 rfl, add_i, int_i, Option.bind_some, divP _ 3 (by decide) (by decide), modP _ _ hm]
      exact fin _
  · simp only [decide_eq_false hl, cond_false]
    by_cases hk : i < (ds.length : Int)
    · simp only [decide_eq_true hk, cond_true, int_i, Option.bind_some, modP _ _ hm]
      exact fin _
    · simp only [decide_eq_false hk, cond_false, mulR _ 7919 rfl, mulR _ 104729 rfl, add_i, int_i, Option.bind_some, divP _ 3 (by decide) (by decide), modP _ _ hm]
      exact fin _
end K11

namespace K11
open PySem L2 EV
/-! ### how high what is made is -/
theorem hgt_st {r : Ty → Ty → Lab → Co} (hr : ∀ a b l, hgt (r a b l) ≤ max a.dp b.dp) (l : Lab) (A B : Ty) : hgt (st r l A B) ≤ max A.dp B.dp := by
  unfold st
  split <;> simp only [hgt, Ty.dp] <;> first
    | omega
    | (rename_i a b; have := hr a b l; have := hr b a l.turn; omega)
    | (rename_i a a' b b'; have := hr b a l.turn; have := hr a b l; have := hr a' b' l; omega)
    | (have := dp1 A; have := dp1 B; omega)
theorem hgt_mk : ∀ (n : Nat) (A B : Ty) (l : Lab), hgt (mk n A B l) ≤ max A.dp B.dp
  | 0, A, B, l => by have := dp1 A; show 1 ≤ _; omega
  | n + 1, A, B, l => by
    have ih := hgt_st (hgt_mk n) l
    unfold mk
    match e : headT A, e' : headT B with
    | none, none => have := dp1 A; show 1 ≤ _; omega
    | some h, none => have := ih A (wide h); have := wide_dp e; show hgt (st (mk n) l A (wide h)) ≤ _; omega
    | none, some h => have := ih (wide h) B; have := wide_dp e'; show hgt (st (mk n) l (wide h) B) ≤ _; omega
    | some h, some h' => exact ih A B
theorem lbs_st {r : Ty → Ty → Lab → Co} {p : Lab → Prop} (l : Lab) (hl : p l ∧ p l.turn) (hr : ∀ a b l, (p l ∧ p l.turn) → ∀ x ∈ lbs (r a b l), p x) (A B : Ty) : ∀ x ∈ lbs (st r l A B), p x := by
  have ht : p l.turn ∧ p l.turn.turn := by obtain ⟨n, s⟩ := l; exact ⟨hl.2, by simpa [Lab.turn] using hl.1⟩
  intro x hx
  unfold st at hx
  split at hx <;> simp only [lbs, List.mem_append] at hx <;> first
    | (cases hx; done)
    | exact hr _ _ _ hl x hx
    | (rcases hx with hx | hx <;> first | exact hr _ _ _ hl x hx | exact hr _ _ _ ht x hx)
theorem lbs_mk {p : Lab → Prop} : ∀ (n : Nat) (A B : Ty) (l : Lab), (p l ∧ p l.turn) → ∀ x ∈ lbs (mk n A B l), p x
  | 0, A, B, l, _ => by intro x hx; cases hx
  | n + 1, A, B, l, hl => by
    have ih := lbs_st (r := mk n) l hl (fun a b l h => lbs_mk n a b l h)
    unfold mk
    match e : headT A, e' : headT B with
    | none, none => intro x hx; cases hx
    | some h, none => exact ih A (wide h)
    | none, some h =>
      intro x hx
      rcases List.mem_cons.mp hx with e | hx
      · rw [e]; exact hl.1
      · exact ih (wide h) B x hx
    | some h, some h' => exact ih A B
/-! ### types as they are drawn -/
theorem sz_dp : ∀ A : Ty, A.sz + 1 ≤ 2 ^ A.dp
  | .t0 _ => Nat.le_refl 2
  | .t1 _ a => by
    have := sz_dp a
    have := Nat.one_le_two_pow (n := a.dp)
    simp only [Ty.sz, Ty.dp, Nat.pow_succ]; omega
  | .t2 _ a b => by
    have h1 := sz_dp a
    have h2 := sz_dp b
    have h3 := Nat.pow_le_pow_right (n := 2) (by decide) (Nat.le_max_left a.dp b.dp)
    have h4 := Nat.pow_le_pow_right (n := 2) (by decide) (Nat.le_max_right a.dp b.dp)
    simp only [Ty.sz, Ty.dp, Nat.pow_succ]; omega
theorem fit4 {A : Ty} (h : A.dp ≤ 4) : Fit A := by
  have h1 := sz_dp A
  have h2 := Nat.pow_le_pow_right (n := 2) (by decide) h
  exact ⟨by omega, by omega⟩
inductive Hq where | z (h : H0) | o (h : H1) | t (h : H2)
def nq : Hq → Str | .z h => n0 h | .o h => n1 h | .t h => n2 h
abbrev B4 : List D := [.str "?", .str "int", .str "bool", .str "unit"]
theorem b40 : binD .Add (.list B4) (.list []) = some (.list B4) := by kernel_rfl
theorem pick0 (r : Int) (h0 : 0 ≤ r) (h1 : r < 4) : ∃ h : H0, ixD (.list B4) (.int r) = some (.str (n0 h)) := by
  obtain ⟨n, rfl⟩ := Int.eq_ofNat_of_zero_le h0
  match n, h1 with
  | 0, _ => exact ⟨.hole, rfl⟩
  | 1, _ => exact ⟨.int, rfl⟩
  | 2, _ => exact ⟨.bool, rfl⟩
  | 3, _ => exact ⟨.unit, rfl⟩
  | n + 4, h => exact absurd h (by omega)
@[simp] theorem gp0 (h : H0) : getI2 [("fun", 2), ("pair", 2), ("cell", 1), ("list", 1)] (.str (n0 h)) (.int 0) = some (.int 0) := by cases h <;> kernel_rfl
@[simp] theorem gp1 (h : H1) : getI2 [("fun", 2), ("pair", 2), ("cell", 1), ("list", 1)] (.str (n1 h)) (.int 0) = some (.int 1) := by cases h <;> kernel_rfl
@[simp] theorem gp2 (h : H2) : getI2 [("fun", 2), ("pair", 2), ("cell", 1), ("list", 1)] (.str (n2 h)) (.int 0) = some (.int 2) := by cases h <;> kernel_rfl
theorem rg0 : rng1 (.int 0) = some [] := by kernel_rfl
theorem rg1 : rng1 (.int 1) = some [.int 0] := by kernel_rfl
theorem rg2 : rng1 (.int 2) = some [.int 0, .int 1] := by kernel_rfl
end K11

namespace EV
open PySem L2
theorem ix_last {xs : List D} {x : D} : ixD (.list (xs ++ [x])) (.int (-1)) = some x := by
  show L2.atI (xs ++ [x]) (-1) = some x
  unfold L2.atI L2.ixN
  have h : -((xs ++ [x]).length : Int) ≤ -1 := by rw [List.length_append, List.length_singleton]; omega
  rw [if_neg (by decide), if_pos h]
  have e : ((-1 : Int) + ((xs ++ [x]).length : Int)).toNat = xs.length := by rw [List.length_append, List.length_singleton]; omega
  show (xs ++ [x])[((-1 : Int) + ((xs ++ [x]).length : Int)).toNat]? = some x
  rw [e]; simp
end EV
namespace K11
open PySem L2 EV
theorem getD_at {α : Type} {xs : List α} {d : α} {j : Nat} (h : j < xs.length) : xs[j]? = some (xs.getD j d) := by
  rw [List.getElem?_eq_getElem h, List.getD_eq_getElem?_getD, List.getElem?_eq_getElem h]; rfl
theorem ixK {ks : List Ty} {j : Nat} (h : j < ks.length) : ixD (.list (ks.map enc)) (.int (j : Int)) = some (enc (ks.getD j hole)) :=
  ix_lst (by omega) (by rw [Int.toNat_natCast, List.getElem?_map, getD_at h]; rfl)
theorem ixR {rs : List Co} {j : Nat} (h : j < rs.length) : ixD (.list (rs.map encC)) (.int (j : Int)) = some (encC (rs.getD j .any)) :=
  ix_lst (by omega) (by rw [Int.toNat_natCast, List.getElem?_map, getD_at h]; rfl)
theorem getD_mem {α : Type} {xs : List α} {d : α} {j : Nat} (h : j < xs.length) : xs.getD j d ∈ xs := by
  rw [List.getD_eq_getElem?_getD, List.getElem?_eq_getElem h]; exact List.getElem_mem h
theorem getD_app {α : Type} {xs ys : List α} {d : α} {j : Nat} (h : j < xs.length) : (xs ++ ys).getD j d = xs.getD j d := by
  rw [List.getD_eq_getElem?_getD, List.getD_eq_getElem?_getD, List.getElem?_append_left h]
theorem getD_end {α : Type} {xs : List α} {x d : α} : (xs ++ [x]).getD xs.length d = x := by
  rw [List.getD_eq_getElem?_getD]; simp
def Ch (ks : List Ty) : Prop := ∀ t, t + 1 < ks.length → Cs (ks.getD t hole) (ks.getD (t + 1) hole)
theorem Ch.app {ks : List Ty} {A B : Ty} (h : Ch (ks ++ [A])) (c : Cs A B) : Ch (ks ++ [A] ++ [B]) := by
  intro t ht
  rw [List.length_append, List.length_singleton] at ht
  by_cases e : t + 1 < (ks ++ [A]).length
  · rw [getD_app e, getD_app (Nat.lt_of_succ_lt e)]; exact h t e
  · have e1 : t + 1 = (ks ++ [A]).length := by omega
    have e2 : t = ks.length := by rw [List.length_append, List.length_singleton] at e1; omega
    rw [e1, getD_end, getD_app (by omega), e2, getD_end]
    exact c
/-! ### the rows -/
def Rw (ks : List Ty) (rs : List Co) : Prop := ∀ t, t < rs.length → Gd (rs.getD t .any) (ks.getD t hole) (ks.getD (t + 1) hole)
theorem Rw.app {ks : List Ty} {rs : List Co} {c : Co} (h : Rw ks rs) (g : Gd c (ks.getD rs.length hole) (ks.getD (rs.length + 1) hole)) : Rw ks (rs ++ [c]) := by
  intro t ht
  rw [List.length_append, List.length_singleton] at ht
  by_cases e : t < rs.length
  · rw [getD_app e]; exact h t e
  · have : t = rs.length := by omega
    subst this
    rw [getD_end]; exact g
theorem neL (l : Lab) : cmpD .NotEq (encL l) (encL l) = some false := by
  show (cond (dle 60 (encL l) && dle 60 (encL l)) (some (PyData.eqv (encL l) (encL l))) none).map _ = _
  rw [dleL, eqvL]; simp
theorem turn2 (l : Lab) : l.turn.turn = l := by obtain ⟨n, s⟩ := l; simp [Lab.turn]
theorem neC' {c : Co} (o : OkC c) : cmpD .NotEq (encC c) (encC c) = some false := by rw [neC o o]; simp
theorem ok_idn {A : Ty} (h : A.dp ≤ 4) : OkC (idn A) := by show dpC (idn A) ≤ 50; rw [dp_idn]; omega
end K11

namespace K11
open PySem L2 EV
/-! ### values -/
mutual
inductive Val where
  | int (i : Int) | bool (b : Bool) | unit | tag (h : Hd7) (v : Val) | pair (v w : Val) | lst (vs : VL) | blame (l : Lab)
inductive VL where
  | nil | cons (v : Val) (r : VL)
end
mutual
def encV : Val → D
  | .int i => .tuple [.str "int", .int i]
  | .bool b => .tuple [.str "bool", .bool b]
  | .unit => .tuple [.str "unit"]
  | .tag h v => .tuple [.str "tag", .str (n7 h), encV v]
  | .pair v w => .tuple [.str "pair", encV v, encV w]
  | .lst vs => .tuple (.str "list" :: encVs vs)
  | .blame l => .tuple [.str "blame", encL l]
def encVs : VL → List D
  | .nil => []
  | .cons v r => encV v :: encVs r
end
mutual
def dpV : Val → Nat
  | .int _ => 1 | .bool _ => 1 | .unit => 1 | .blame _ => 2
  | .tag _ v => dpV v + 1
  | .pair v w => max (dpV v) (dpV w) + 1
  | .lst vs => dpVs vs + 1
def dpVs : VL → Nat
  | .nil => 0
  | .cons v r => max (dpV v) (dpVs r)
end
mutual
def szV : Val → Nat
  | .int _ => 1 | .bool _ => 1 | .unit => 1 | .blame _ => 1
  | .tag _ v => szV v + 1
  | .pair v w => szV v + szV w + 1
  | .lst vs => szVs vs + 1
def szVs : VL → Nat
  | .nil => 0
  | .cons v r => szV v + szVs r
end
def Val.isB : Val → Bool | .blame _ => true | _ => false
mutual
def VT : Val → Ty → Prop
  | .blame _, _ => True
  | .int _, A => A = .t0 .int
  | .bool _, A => A = .t0 .bool
  | .unit, A => A = .t0 .unit
  | .tag h v, A => A = hole ∧ v.isB = false ∧ VT v (wide h)
  | .pair v w, A => ∃ a b, A = .t2 .pair a b ∧ VT v a ∧ VT w b
  | .lst vs, A => ∃ a, A = .t1 .list a ∧ VTs vs a
def VTs : VL → Ty → Prop
  | .nil, _ => True
  | .cons v r, a => VT v a ∧ VTs r a
end
def VL.map (f : Val → Val) : VL → VL
  | .nil => .nil
  | .cons v r => .cons (f v) (r.map f)
def VL.len : VL → Nat
  | .nil => 0
  | .cons _ r => r.len + 1
theorem szV1 : ∀ v, 1 ≤ szV v
  | .int _ => Nat.le_refl 1 | .bool _ => Nat.le_refl 1 | .unit => Nat.le_refl 1 | .blame _ => Nat.le_refl 1
  | .tag _ v => Nat.succ_le_succ (Nat.zero_le _)
  | .pair v w => Nat.succ_le_succ (Nat.zero_le _)
  | .lst vs => Nat.succ_le_succ (Nat.zero_le _)
theorem dpV1 : ∀ v, 1 ≤ dpV v
  | .int _ => Nat.le_refl 1 | .bool _ => Nat.le_refl 1 | .unit => Nat.le_refl 1 | .blame _ => Nat.le_succ 1
  | .tag _ v => Nat.succ_le_succ (Nat.zero_le _)
  | .pair v w => Nat.succ_le_succ (Nat.zero_le _)
  | .lst vs => Nat.succ_le_succ (Nat.zero_le _)
theorem len_sz : ∀ vs : VL, vs.len ≤ szVs vs
  | .nil => Nat.le_refl 0
  | .cons v r => by have := len_sz r; have := szV1 v; simp only [VL.len, szVs]; omega
theorem len_enc' : ∀ vs : VL, (encVs vs).length = vs.len
  | .nil => rfl
  | .cons v r => by simp [encVs, VL.len, len_enc' r]
/-- behind a coercion -/
def seen : Co → Val → Val
  | .any, v => v
  | .base _, v => v
  | .fail _ l _, v => if v.isB = true then v else .blame l
  | .to c h, v => if (seen c v).isB = true then seen c v else .tag h (seen c v)
  | .frm h l c, v => match v with
    | .tag h' w => if h = h' then seen c w else .blame l
    | v => v
  | .lst c, v => match v with
    | .lst vs => .lst (vs.map (seen c))
    | v => v
  | .two _ c d, v => match v with
    | .pair v w => .pair (seen c v) (seen d w)
    | v => v
theorem seen_b (l : Lab) : ∀ c, seen c (.blame l) = .blame l
  | .any => rfl | .base _ => rfl | .fail _ _ _ => rfl | .frm _ _ _ => rfl | .lst _ => rfl | .two _ _ _ => rfl
  | .to c h => by show (if (seen c (.blame l)).isB = true then _ else _) = _; rw [seen_b l c]; rfl
theorem isB_eq {v : Val} (h : v.isB = true) : ∃ l, v = .blame l := by cases v <;> first | exact ⟨_, rfl⟩ | cases h
theorem map_map' (f g : Val → Val) : ∀ vs : VL, (vs.map f).map g = vs.map fun v => g (f v)
  | .nil => rfl
  | .cons v r => by simp only [VL.map, map_map' f g r]
theorem map_eq {f g : Val → Val} : ∀ {vs : VL} {a : Ty}, VTs vs a → (∀ v, VT v a → f v = g v) → vs.map f = vs.map g
  | .nil, _, _, _ => rfl
  | .cons v r, a, h, e => by simp only [VL.map, e v h.1, map_eq h.2 e]
theorem map_idv {f : Val → Val} : ∀ {vs : VL} {a : Ty}, VTs vs a → (∀ v, VT v a → f v = v) → vs.map f = vs
  | .nil, _, _, _ => rfl
  | .cons v r, a, h, e => by simp only [VL.map, e v h.1, map_idv h.2 e]
theorem map_vt {f : Val → Val} {a b : Ty} : ∀ {vs : VL}, VTs vs a → (∀ v, VT v a → VT (f v) b) → VTs (vs.map f) b
  | .nil, _, _ => trivial
  | .cons v r, h, e => ⟨e v h.1, map_vt h.2 e⟩
theorem vt_int {v : Val} (h : VT v (.t0 .int)) (nb : v.isB = false) : ∃ i, v = .int i := by
  cases v with
  | int i => exact ⟨i, rfl⟩
  | bool b => simp [VT] at h
  | unit => simp [VT] at h
  | tag h' v => simp [VT, hole] at h
  | pair v w => simp [VT] at h
  | lst vs => simp [VT] at h
  | blame l => cases nb
/-- a plain coercion gives no blame -/
theorem pl_nb {c : Co} (p : isPl c = true) {v : Val} (h : v.isB = false) : (seen c v).isB = false := by
  cases c <;> first | (cases p; done) | skip
  · exact h
  · cases v <;> first | rfl | cases h
  · cases v <;> first | rfl | cases h
theorem vt_head {v : Val} {h : Hd7} (nb : v.isB = false) (t : VT v (wide h)) : True := trivial
theorem VT_seen : ∀ (c : Co) {A B : Ty} {v : Val}, W c A B → VT v A → VT (seen c v) B
  | .any, A, B, v, w, t => by rw [w.1] at t; rw [w.2]; exact t
  | .base b, A, B, v, w, t => by rw [w.1] at t; rw [w.2]; exact t
  | .fail h l h', A, B, v, w, t => by
    show VT (if v.isB = true then v else .blame l) B
    by_cases e : v.isB = true
    · obtain ⟨l', rfl⟩ := isB_eq e; trivial
    · rw [if_neg e]; trivial
  | .to c h, A, B, v, ⟨hB, p, w⟩, t => by
    have i := VT_seen c w t
    show VT (if (seen c v).isB = true then seen c v else .tag h (seen c v)) B
    by_cases e : (seen c v).isB = true
    · rw [if_pos e]; obtain ⟨l', e2⟩ := isB_eq e; rw [e2]; trivial
    · rw [if_neg e]; exact ⟨hB, by simpa using e, i⟩
  | .frm h l c, A, B, v, ⟨hA, m, w⟩, t => by
    cases v with
    | tag h' x =>
      show VT (if h = h' then seen c x else .blame l) B
      by_cases e : h = h'
      · rw [if_pos e]; subst e; exact VT_seen c w t.2.2
      · rw [if_neg e]; trivial
    | blame l' => trivial
    | int i => rw [hA] at t; simp [VT, hole] at t
    | bool i => rw [hA] at t; simp [VT, hole] at t
    | unit => rw [hA] at t; simp [VT, hole] at t
    | pair _ _ => rw [hA] at t; simp [VT, hole] at t
    | lst _ => rw [hA] at t; simp [VT, hole] at t
  | .lst c, A, B, v, ⟨a, b, hA, hB, w⟩, t => by
    subst hA hB
    cases v with
    | lst vs =>
      obtain ⟨a', e, t⟩ := t
      cases e
      exact ⟨b, rfl, map_vt t fun v tv => VT_seen c w tv⟩
    | blame l' => trivial
    | int i => simp [VT] at t
    | bool i => simp [VT] at t
    | unit => simp [VT] at t
    | pair _ _ => simp [VT] at t
    | tag _ _ => simp [VT, hole] at t
  | .two .pair c d, A, B, v, ⟨a, a', b, b', hA, hB, w, w'⟩, t => by
    subst hA hB
    cases v with
    | pair x y =>
      obtain ⟨a1, b1, e, t1, t2⟩ := t
      cases e
      exact ⟨b, b', rfl, VT_seen c w t1, VT_seen d w' t2⟩
    | blame l' => trivial
    | int i => simp [VT] at t
    | bool i => simp [VT] at t
    | unit => simp [VT] at t
    | lst _ => simp [VT] at t
    | tag _ _ => simp [VT, hole] at t
  | .two .fn c d, A, B, v, ⟨a, a', b, b', hA, hB, w, w'⟩, t => by
    subst hA hB
    cases v with
    | blame l' => trivial
    | int i => simp [VT] at t
    | bool i => simp [VT] at t
    | unit => simp [VT] at t
    | lst _ => simp [VT] at t
    | pair _ _ => simp [VT] at t
    | tag _ _ => simp [VT, hole] at t
  | .two .cell c d, A, B, v, ⟨a, b, hA, hB, w, w'⟩, t => by
    subst hA hB
    cases v with
    | blame l' => trivial
    | int i => simp [VT] at t
    | bool i => simp [VT] at t
    | unit => simp [VT] at t
    | lst _ => simp [VT] at t
    | pair _ _ => simp [VT] at t
    | tag _ _ => simp [VT, hole] at t
theorem seen_comp : ∀ (n : Nat) {a b : Co} {A B C : Ty} {v : Val}, dpC a + dpC b ≤ n → W a A B → W b B C → VT v A → seen (comp a b) v = seen b (seen a v)
  | 0, a, b, _, _, _, _, h, _, _, _ => by have := dpC1 a; omega
  | n + 1, a, b, A, B, C, v, hn, w, w', t => by
    have ih := @seen_comp n
    by_cases nb : v.isB = true
    · obtain ⟨l, rfl⟩ := isB_eq nb
      rw [seen_b, seen_b, seen_b]
    have nb : v.isB = false := by simpa using nb
    cases meet w w' with
    | any b B C w hB => rw [c_any]; rfl
    | fail h l h' b A B C e ne =>
      rw [c_fail]
      show (if v.isB = true then v else .blame l) = seen b (if v.isB = true then v else .blame l)
      rw [nb, if_neg (by decide), seen_b]
    | frm h l c b A B C hA m u0 u1 =>
      simp only [dpC] at hn
      rw [c_frm]
      subst hA
      cases v with
      | tag h' x =>
        show (if h = h' then seen (comp c b) x else .blame l) = seen b (if h = h' then seen c x else .blame l)
        by_cases e : h = h'
        · rw [if_pos e, if_pos e]; subst e; exact ih (by omega) u0 u1 t.2.2
        · rw [if_neg e, if_neg e, seen_b]
      | blame l' => cases nb
      | int i => simp [VT, hole] at t
      | bool i => simp [VT, hole] at t
      | unit => simp [VT, hole] at t
      | pair _ _ => simp [VT, hole] at t
      | lst _ => simp [VT, hole] at t
    | ta c h A B C hB hC p w => rw [c_to_any]; rfl
    | tf c h h' l d A B C hB p w m w' =>
      simp only [dpC] at hn
      rw [c_to_frm]
      have q := pl_nb p nb
      have e1 : seen (.to c h) v = .tag h (seen c v) := by
        show (if (seen c v).isB = true then _ else _) = _
        rw [q, if_neg (by decide)]
      rw [e1]
      show _ = (if h' = h then seen d (seen c v) else .blame l)
      by_cases e : h = h'
      · subst e
        simp only [if_true]
        exact ih (by omega) w w' t
      · rw [if_neg e, if_neg (fun x => e x.symm)]
        show (if v.isB = true then v else .blame l) = _
        rw [nb, if_neg (by decide)]
    | pt c d h A B C p w hC p' w' =>
      simp only [dpC] at hn
      rw [c_p_to p]
      show (if (seen (comp a d) v).isB = true then seen (comp a d) v else .tag h (seen (comp a d) v)) = (if (seen d (seen a v)).isB = true then seen d (seen a v) else .tag h (seen d (seen a v)))
      rw [ih (by omega) w w' t]
    | pf c h l h' A B C p w e ne =>
      rw [c_p_fail p]
      show (if v.isB = true then v else .blame l) = (if (seen a v).isB = true then seen a v else .blame l)
      rw [nb, pl_nb p nb, if_neg (by decide), if_neg (by decide)]
    | bb b => rw [c_base]; rfl
    | ll c d a b e u0 u1 =>
      simp only [dpC] at hn
      rw [c_lst]
      cases v with
      | lst vs =>
        obtain ⟨a', e, t⟩ := t
        cases e
        show Val.lst (vs.map (seen (comp c d))) = Val.lst ((vs.map (seen c)).map (seen d))
        rw [map_map', map_eq t fun v tv => ih (by omega) u0 u1 tv]
      | blame l' => cases nb
      | int i => simp [VT] at t
      | bool i => simp [VT] at t
      | unit => simp [VT] at t
      | pair _ _ => simp [VT] at t
      | tag _ _ => simp [VT, hole] at t
    | pp c c' d d' a a' b b' e e' u0 w1 w2 w3 =>
      simp only [dpC] at hn
      rw [c_pair]
      cases v with
      | pair x y =>
        obtain ⟨a1, b1, e, t1, t2⟩ := t
        cases e
        show Val.pair (seen (comp c d) x) (seen (comp c' d') y) = Val.pair (seen d (seen c x)) (seen d' (seen c' y))
        rw [ih (by omega) u0 w2 t1, ih (by omega) w1 w3 t2]
      | blame l' => cases nb
      | int i => simp [VT] at t
      | bool i => simp [VT] at t
      | unit => simp [VT] at t
      | lst _ => simp [VT] at t
      | tag _ _ => simp [VT, hole] at t
    | ff c c' d d' a a' b b' e e' u0 w1 w2 w3 =>
      cases v with
      | blame l' => cases nb
      | int i => simp [VT] at t
      | bool i => simp [VT] at t
      | unit => simp [VT] at t
      | lst _ => simp [VT] at t
      | pair _ _ => simp [VT] at t
      | tag _ _ => simp [VT, hole] at t
    | cc c c' d d' a b e u0 w1 w2 w3 =>
      cases v with
      | blame l' => cases nb
      | int i => simp [VT] at t
      | bool i => simp [VT] at t
      | unit => simp [VT] at t
      | lst _ => simp [VT] at t
      | pair _ _ => simp [VT] at t
      | tag _ _ => simp [VT, hole] at t
theorem seen_idn : ∀ (A : Ty) {v : Val}, VT v A → seen (idn A) v = v
  | .t0 .hole, v, _ => rfl | .t0 .int, v, _ => rfl | .t0 .bool, v, _ => rfl | .t0 .unit, v, _ => rfl
  | .t1 .list a, v, t => by
    cases v with
    | lst vs =>
      obtain ⟨a', e, t⟩ := t
      cases e
      show Val.lst (vs.map (seen (idn a))) = _
      rw [map_idv t fun v tv => seen_idn a tv]
    | _ => rfl
  | .t2 .pair a b, v, t => by
    cases v with
    | pair x y =>
      obtain ⟨a1, b1, e, t1, t2⟩ := t
      cases e
      show Val.pair (seen (idn a) x) (seen (idn b) y) = _
      rw [seen_idn a t1, seen_idn b t2]
    | _ => rfl
  | .t1 .cell a, v, t => by
    cases v with
    | pair x y => simp [VT] at t
    | _ => rfl
  | .t2 .fn a b, v, t => by
    cases v with
    | pair x y => simp [VT] at t
    | _ => rfl
/-! ### sizes, depths -/
theorem map_sz {f : Val → Val} : ∀ {vs : VL}, (∀ v, szV (f v) ≤ 2 * szV v) → szVs (vs.map f) ≤ 2 * szVs vs
  | .nil, _ => Nat.le_refl _
  | .cons v r, e => by have := e v; have := map_sz (vs := r) e; simp only [VL.map, szVs]; omega
theorem sz_seen : ∀ (c : Co) {A B : Ty}, W c A B → ∀ (v : Val), szV (seen c v) ≤ 2 * szV v ∧ (isPl c = true → szV (seen c v) + 1 ≤ 2 * szV v)
  | .any, _, _, _, v => ⟨by show szV v ≤ _; omega, fun h => by (cases h)⟩
  | .base b, _, _, _, v => ⟨by show szV v ≤ _; omega, fun _ => by have := szV1 v; show szV v + 1 ≤ _; omega⟩
  | .fail h l h', _, _, _, v => ⟨by
      show szV (if v.isB = true then v else .blame l) ≤ _
      have := szV1 v
      by_cases e : v.isB = true
      · rw [if_pos e]; omega
      · rw [if_neg e]; show 1 ≤ _; omega, fun h => by (cases h)⟩
  | .lst c, _, _, ⟨_, _, _, _, w⟩, v => by
    have h : szV (seen (.lst c) v) + 1 ≤ 2 * szV v := by
      cases v with
      | lst vs =>
        have := map_sz (vs := vs) fun v => (sz_seen c w v).1
        show szVs (vs.map (seen c)) + 1 + 1 ≤ 2 * (szVs vs + 1)
        omega
      | int i => show 2 ≤ 2; omega
      | bool i => show 2 ≤ 2; omega
      | unit => show 2 ≤ 2; omega
      | blame l => show 2 ≤ 2; omega
      | tag h x => show szV x + 1 + 1 ≤ 2 * (szV x + 1); omega
      | pair x y => show szV x + szV y + 1 + 1 ≤ 2 * (szV x + szV y + 1); omega
    exact ⟨by omega, fun _ => h⟩
  | .two .pair c d, _, _, ⟨_, _, _, _, _, _, w, w'⟩, v => by
    have h : szV (seen (.two .pair c d) v) + 1 ≤ 2 * szV v := by
      cases v with
      | pair x y =>
        have := (sz_seen c w x).1
        have := (sz_seen d w' y).1
        show szV (seen c x) + szV (seen d y) + 1 + 1 ≤ 2 * (szV x + szV y + 1)
        omega
      | int i => show 2 ≤ 2; omega
      | bool i => show 2 ≤ 2; omega
      | unit => show 2 ≤ 2; omega
      | blame l => show 2 ≤ 2; omega
      | tag h x => show szV x + 1 + 1 ≤ 2 * (szV x + 1); omega
      | lst x => show szVs x + 1 + 1 ≤ 2 * (szVs x + 1); omega
    exact ⟨by omega, fun _ => h⟩
  | .two .fn c d, _, _, ⟨_, _, _, _, _, _, w, w'⟩, v => by
    have h : szV (seen (.two .fn c d) v) + 1 ≤ 2 * szV v := by
      cases v with
      | pair x y =>
        have := (sz_seen c w x).1
        have := (sz_seen d w' y).1
        show szV (seen c x) + szV (seen d y) + 1 + 1 ≤ 2 * (szV x + szV y + 1)
        omega
      | int i => show 2 ≤ 2; omega
      | bool i => show 2 ≤ 2; omega
      | unit => show 2 ≤ 2; omega
      | blame l => show 2 ≤ 2; omega
      | tag h x => show szV x + 1 + 1 ≤ 2 * (szV x + 1); omega
      | lst x => show szVs x + 1 + 1 ≤ 2 * (szVs x + 1); omega
    exact ⟨by omega, fun _ => h⟩
  | .two .cell c d, _, _, ⟨_, _, _, _, w, w'⟩, v => by
    have h : szV (seen (.two .cell c d) v) + 1 ≤ 2 * szV v := by
      cases v with
      | pair x y =>
        have := (sz_seen c w x).1
        have := (sz_seen d w' y).1
        show szV (seen c x) + szV (seen d y) + 1 + 1 ≤ 2 * (szV x + szV y + 1)
        omega
      | int i => show 2 ≤ 2; omega
      | bool i => show 2 ≤ 2; omega
      | unit => show 2 ≤ 2; omega
      | blame l => show 2 ≤ 2; omega
      | tag h x => show szV x + 1 + 1 ≤ 2 * (szV x + 1); omega
      | lst x => show szVs x + 1 + 1 ≤ 2 * (szVs x + 1); omega
    exact ⟨by omega, fun _ => h⟩
  | .frm h l c, _, _, ⟨_, _, w⟩, v => ⟨by
      cases v with
      | tag h' x =>
        show szV (if h = h' then seen c x else .blame l) ≤ 2 * (szV x + 1)
        have := (sz_seen c w x).1
        by_cases e : h = h'
        · rw [if_pos e]; omega
        · rw [if_neg e]; show 1 ≤ _; omega
      | int i => show 1 ≤ 2; omega
      | bool i => show 1 ≤ 2; omega
      | unit => show 1 ≤ 2; omega
      | blame l => show 1 ≤ 2; omega
      | pair x y => show szV x + szV y + 1 ≤ 2 * (szV x + szV y + 1); omega
      | lst x => show szVs x + 1 ≤ 2 * (szVs x + 1); omega, fun h => by (cases h)⟩
  | .to c h, _, _, ⟨_, p, w⟩, v => ⟨by
      have i := sz_seen c w v
      show szV (if (seen c v).isB = true then seen c v else .tag h (seen c v)) ≤ _
      by_cases e : (seen c v).isB = true
      · rw [if_pos e]; exact i.1
      · rw [if_neg e]
        show szV (seen c v) + 1 ≤ _
        exact i.2 p, fun h => by (cases h)⟩
theorem map_dp {f : Val → Val} {n : Nat} : ∀ {vs : VL}, (∀ v, dpV (f v) ≤ dpV v + n) → dpVs (vs.map f) ≤ dpVs vs + n
  | .nil, _ => Nat.zero_le _
  | .cons v r, e => by have := e v; have := map_dp (vs := r) e; simp only [VL.map, dpVs]; omega
theorem dp_seen : ∀ (c : Co) (v : Val), dpV (seen c v) ≤ dpV v + dpC c
  | .any, v => Nat.le_add_right _ _
  | .base b, v => Nat.le_add_right _ _
  | .fail h l h', v => by
    show dpV (if v.isB = true then v else .blame l) ≤ dpV v + 2
    by_cases e : v.isB = true
    · rw [if_pos e]; omega
    · rw [if_neg e]; show 2 ≤ _; omega
  | .lst c, v => by
    cases v with
    | lst vs =>
      have := map_dp (vs := vs) fun v => dp_seen c v
      show dpVs (vs.map (seen c)) + 1 ≤ dpVs vs + 1 + (dpC c + 1)
      omega
    | _ => exact Nat.le_add_right _ _
  | .two g c d, v => by
    cases v with
    | pair x y =>
      have := dp_seen c x
      have := dp_seen d y
      show max (dpV (seen c x)) (dpV (seen d y)) + 1 ≤ max (dpV x) (dpV y) + 1 + (max (dpC c) (dpC d) + 1)
      omega
    | _ => exact Nat.le_add_right _ _
  | .frm h l c, v => by
    cases v with
    | tag h' x =>
      have := dp_seen c x
      have := dpV1 x
      have := dpC1 c
      show dpV (if h = h' then seen c x else .blame l) ≤ dpV x + 1 + (max (dpC c) 1 + 1)
      by_cases e : h = h'
      · rw [if_pos e]; omega
      · rw [if_neg e]; show 2 ≤ _; omega
    | _ => exact Nat.le_add_right _ _
  | .to c h, v => by
    have := dp_seen c v
    show dpV (if (seen c v).isB = true then seen c v else .tag h (seen c v)) ≤ dpV v + (dpC c + 1)
    by_cases e : (seen c v).isB = true
    · rw [if_pos e]; omega
    · rw [if_neg e]; show dpV (seen c v) + 1 ≤ _; omega
end K11

namespace K11
open PySem L2 EV
@[simp] theorem vs1 : (("int" : Str) == ("bool" : Str)) = false := by decide +kernel
@[simp] theorem vs2 : (("int" : Str) == ("unit" : Str)) = false := by decide +kernel
@[simp] theorem vs3 : (("int" : Str) == ("tag" : Str)) = false := by decide +kernel
@[simp] theorem vs4 : (("int" : Str) == ("pair" : Str)) = false := by decide +kernel
@[simp] theorem vs5 : (("int" : Str) == ("list" : Str)) = false := by decide +kernel
@[simp] theorem vs6 : (("int" : Str) == ("blame" : Str)) = false := by decide +kernel
@[simp] theorem vs7 : (("bool" : Str) == ("int" : Str)) = false := by decide +kernel
@[simp] theorem vs8 : (("bool" : Str) == ("unit" : Str)) = false := by decide +kernel
@[simp] theorem vs9 : (("bool" : Str) == ("tag" : Str)) = false := by decide +kernel
@[simp] theorem vs10 : (("bool" : Str) == ("pair" : Str)) = false := by decide +kernel
@[simp] theorem vs11 : (("bool" : Str) == ("list" : Str)) = false := by decide +kernel
@[simp] theorem vs12 : (("bool" : Str) == ("blame" : Str)) = false := by decide +kernel
@[simp] theorem vs13 : (("unit" : Str) == ("int" : Str)) = false := by decide +kernel
@[simp] theorem vs14 : (("unit" : Str) == ("bool" : Str)) = false := by decide +kernel
@[simp] theorem vs15 : (("unit" : Str) == ("tag" : Str)) = false := by decide +kernel
@[simp] theorem vs16 : (("unit" : Str) == ("pair" : Str)) = false := by decide +kernel
@[simp] theorem vs17 : (("unit" : Str) == ("list" : Str)) = false := by decide +kernel
@[simp] theorem vs18 : (("unit" : Str) == ("blame" : Str)) = false := by decide +kernel
@[simp] theorem vs19 : (("tag" : Str) == ("int" : Str)) = false := by decide +kernel
@[simp] theorem vs20 : (("tag" : Str) == ("bool" : Str)) = false := by decide +kernel
@[simp] theorem vs21 : (("tag" : Str) == ("unit" : Str)) = false := by decide +kernel
@[simp] theorem vs22 : (("tag" : Str) == ("pair" : Str)) = false := by decide +kernel
@[simp] theorem vs23 : (("tag" : Str) == ("list" : Str)) = false := by decide +kernel
@[simp] theorem vs24 : (("tag" : Str) == ("blame" : Str)) = false := by decide +kernel
@[simp] theorem vs25 : (("pair" : Str) == ("int" : Str)) = false := by decide +kernel
@[simp] theorem vs26 : (("pair" : Str) == ("bool" : Str)) = false := by decide +kernel
@[simp] theorem vs27 : (("pair" : Str) == ("unit" : Str)) = false := by decide +kernel
@[simp] theorem vs28 : (("pair" : Str) == ("tag" : Str)) = false := by decide +kernel
@[simp] theorem vs29 : (("pair" : Str) == ("list" : Str)) = false := by decide +kernel
@[simp] theorem vs30 : (("pair" : Str) == ("blame" : Str)) = false := by decide +kernel
@[simp] theorem vs31 : (("list" : Str) == ("int" : Str)) = false := by decide +kernel
@[simp] theorem vs32 : (("list" : Str) == ("bool" : Str)) = false := by decide +kernel
@[simp] theorem vs33 : (("list" : Str) == ("unit" : Str)) = false := by decide +kernel
@[simp] theorem vs34 : (("list" : Str) == ("tag" : Str)) = false := by decide +kernel
@[simp] theorem vs35 : (("list" : Str) == ("pair" : Str)) = false := by decide +kernel
@[simp] theorem vs36 : (("list" : Str) == ("blame" : Str)) = false := by decide +kernel
@[simp] theorem vs37 : (("blame" : Str) == ("int" : Str)) = false := by decide +kernel
@[simp] theorem vs38 : (("blame" : Str) == ("bool" : Str)) = false := by decide +kernel
@[simp] theorem vs39 : (("blame" : Str) == ("unit" : Str)) = false := by decide +kernel
@[simp] theorem vs40 : (("blame" : Str) == ("tag" : Str)) = false := by decide +kernel
@[simp] theorem vs41 : (("blame" : Str) == ("pair" : Str)) = false := by decide +kernel
@[simp] theorem vs42 : (("blame" : Str) == ("list" : Str)) = false := by decide +kernel
theorem compM_of {f : D → Option (Option D)} : ∀ {xs ys : List D}, xs.length = ys.length → (∀ (j : Nat) (x y : D), xs[j]? = some x → ys[j]? = some y → f x = some (some y)) → compM f xs = some ys
  | [], [], _, _ => rfl
  | [], _ :: _, h, _ => by cases h
  | _ :: _, [], h, _ => by cases h
  | x :: r, y :: s, hl, h => by
    have i := compM_of (f := f) (xs := r) (ys := s) (Nat.succ.inj hl) fun j x y h1 h2 => h (j + 1) x y h1 h2
    have h0 := h 0 x y rfl rfl
    unfold compM
    rw [h0, obs1, i]; rfl
theorem boolsT : ∀ n : Nat, bD .all [.list (List.replicate n (.bool true))] = some (.bool true) := by
  intro n
  show (boolsD (List.replicate n (.bool true))).map (fun bs => PyData.bool (bs.all id)) = _
  have : boolsD (List.replicate n (.bool true)) = some (List.replicate n true) := by
    induction n with
    | zero => rfl
    | succ n ih =>
      show boolsD (.bool true :: List.replicate n (.bool true)) = some (true :: List.replicate n true)
      unfold boolsD at ih ⊢
      unfold mapO
      rw [ih]; rfl
  rw [this]; simp
def vtg : Val → Str | .int _ => "int" | .bool _ => "bool" | .unit => "unit" | .tag _ _ => "tag" | .pair _ _ => "pair" | .lst _ => "list" | .blame _ => "blame"
theorem ix_tup {xs : List D} {i : Int} {x : D} (h0 : 0 ≤ i) (h : xs[i.toNat]? = some x) : ixD (.tuple xs) (.int i) = some x := atI_nat h0 h
@[simp] theorem ixv0 (v : Val) : ixD (encV v) (.int 0) = some (.str (vtg v)) := by
  cases v with
  | lst vs => exact ix_tup (by decide) rfl
  | _ => rfl
@[simp] theorem isiV (v : Val) : isTy .tuple (encV v) = some true := by cases v <;> rfl
@[simp] theorem vg1 (i : Int) : vtg (.int i) = "int" := rfl
@[simp] theorem vg2 (i : Bool) : vtg (.bool i) = "bool" := rfl
@[simp] theorem vg3 : vtg .unit = "unit" := rfl
@[simp] theorem vg4 (h : Hd7) (v : Val) : vtg (.tag h v) = "tag" := rfl
@[simp] theorem vg5 (v w : Val) : vtg (.pair v w) = "pair" := rfl
@[simp] theorem vg6 (vs : VL) : vtg (.lst vs) = "list" := rfl
@[simp] theorem vg7 (l : Lab) : vtg (.blame l) = "blame" := rfl
theorem vb (v : Val) : (vtg v == ("blame" : Str)) = v.isB := by cases v <;> kernel_rfl
@[simp] theorem ixt1v (h : Hd7) (v : Val) : ixD (encV (.tag h v)) (.int 1) = some (.str (n7 h)) := rfl
@[simp] theorem ixt2v (h : Hd7) (v : Val) : ixD (encV (.tag h v)) (.int 2) = some (encV v) := rfl
@[simp] theorem ixp1v (v w : Val) : ixD (encV (.pair v w)) (.int 1) = some (encV v) := rfl
@[simp] theorem ixp2v (v w : Val) : ixD (encV (.pair v w)) (.int 2) = some (encV w) := rfl
@[simp] theorem lt3v (h : Hd7) (v : Val) : bD .len [encV (.tag h v)] = some (.int 3) := rfl
@[simp] theorem lp3v (v w : Val) : bD .len [encV (.pair v w)] = some (.int 3) := rfl
theorem ll3v (vs : VL) : bD .len [encV (.lst vs)] = some (.int ((vs.len + 1 : Nat) : Int)) := by
  show some (PyData.int ((PyData.str "list" :: encVs vs).length : Int)) = _
  rw [List.length_cons, len_enc']
@[simp] theorem slpv (v w : Val) : slD (encV (.pair v w)) (some 1) none = some (.tuple [encV v, encV w]) := by kernel_rfl
theorem sl_tail (x : D) (xs : List D) : slD (.tuple (x :: xs)) (some 1) none = some (.tuple xs) := by
  have h1 : HT.sIx (x :: xs).length 0 (some 1) = min 1 (x :: xs).length := HT.sIx_nat _ _ 1
  show some (PyData.tuple (((x :: xs).drop (HT.sIx (x :: xs).length 0 (some 1))).take ((x :: xs).length - HT.sIx (x :: xs).length 0 (some 1)))) = _
  rw [h1, List.length_cons, Nat.min_eq_left (by omega), List.drop_succ_cons, List.drop_zero, Nat.add_sub_cancel, List.take_length]
theorem vt_tag {v : Val} {h : Hd7} (nb : v.isB = false) (t : VT v (wide h)) : vtg v = n7 h := by
  cases v with
  | blame l => cases nb
  | int i => cases h <;> simp [VT, wide] at t <;> rfl
  | bool i => cases h <;> simp [VT, wide] at t <;> rfl
  | unit => cases h <;> simp [VT, wide] at t <;> rfl
  | tag h' x => cases h <;> simp [VT, wide, hole] at t
  | pair _ _ => cases h <;> simp [VT, wide] at t <;> rfl
  | lst _ => cases h <;> simp [VT, wide] at t <;> rfl
theorem cm_true {g : D → Option D} {vs : VL} (h : ∀ (j : Nat) (x : D), (encVs vs)[j]? = some x → g x = some (.bool true)) (hs : vs.len < 1000) :
    (((lim (compM (fun x => (g x).bind fun y => some (some y)) (encVs vs))).bind fun x73 => some ([x73])).bind fun ds74 => bD .all ds74) = some (.bool true) := by
  have e := compM_of (f := fun x => (g x).bind fun y => some (some y)) (xs := encVs vs) (ys := List.replicate vs.len (.bool true)) (by rw [List.length_replicate, len_enc']) fun j x y h1 h2 => by
    rw [h j x h1, obs1]
    rw [List.getElem?_replicate] at h2
    split at h2
    · cases h2; rfl
    · cases h2
  rw [e, limL (by rw [List.length_replicate]; exact hs), obs1, obs1, boolsT]
/-- the elements -/
theorem mem_vs : ∀ {vs : VL} {j : Nat} {x : D}, (encVs vs)[j]? = some x → ∃ v, x = encV v ∧ dpV v ≤ dpVs vs ∧ szV v ≤ szVs vs ∧ (∀ a, VTs vs a → VT v a)
  | .cons v r, 0, x, h => ⟨v, (Option.some.inj h).symm, by simp only [dpVs]; omega, by simp only [szVs]; omega, fun a t => t.1⟩
  | .cons v r, j + 1, x, h => by
    obtain ⟨w, e, h1, h2, h3⟩ := mem_vs (vs := r) (j := j) h
    exact ⟨w, e, by simp only [dpVs]; omega, by simp only [szVs]; omega, fun a t => h3 a t.2⟩
  | .nil, j, x, h => by cases j <;> cases h
@[simp] theorem tag_in : cmpD .In (.str "tag") (PyData.tuple [(PyData.str "int"), (PyData.str "bool")]) = some false := by kernel_rfl
@[simp] theorem pair_in : cmpD .In (.str "pair") (PyData.tuple [(PyData.str "int"), (PyData.str "bool")]) = some false := by kernel_rfl
@[simp] theorem list_in : cmpD .In (.str "list") (PyData.tuple [(PyData.str "int"), (PyData.str "bool")]) = some false := by kernel_rfl
theorem ev_isV : ∀ (n : Nat) (v : Val) (A : Ty) (m : Nat), dpV v ≤ n → VT v A → szV v < 900 → n ≤ m → callN T hd.G m "is_value" [encV v] = some (.bool true)
  | 0, v, _, _, h, _, _, _ => by have := dpV1 v; omega
  | n + 1, .int i, A, m + 1, _, _, _, _ => by rw [r_is_value]; kernel_rfl
  | n + 1, .bool b, A, m + 1, _, _, _, _ => by rw [r_is_value]; kernel_rfl
  | n + 1, .unit, A, m + 1, _, _, _, _ => by rw [r_is_value]; kernel_rfl
  | n + 1, .blame l, A, m + 1, _, _, _, _ => by rw [r_is_value]; kernel_rfl
  | n + 1, .tag h v, A, m + 1, hn, t, hs, hm => by
    simp only [dpV] at hn
    simp only [szV] at hs
    have i := ev_isV n v _ m (by omega) t.2.2 (by omega) (by omega)
    have e := vt_tag t.2.1 t.2.2
    rw [r_is_value]
    simp [i, e]
  | n + 1, .pair v w, A, m + 1, hn, t, hs, hm => by
    simp only [dpV] at hn
    simp only [szV] at hs
    obtain ⟨a, b, _, t1, t2⟩ := t
    have i := ev_isV n v _ m (by omega) t1 (by omega) (by omega)
    have j := ev_isV n w _ m (by omega) t2 (by omega) (by omega)
    rw [r_is_value]
    simp [i, j, compM]
  | n + 1, .lst vs, A, m + 1, hn, t, hs, hm => by
    simp only [dpV] at hn
    simp only [szV] at hs
    obtain ⟨a, _, t⟩ := t
    have hl := len_sz vs
    have c := cm_true (g := fun x => callN T hd.G m "is_value" [x]) (vs := vs) (fun j x h => by
      obtain ⟨v, rfl, h1, h2, h3⟩ := mem_vs h
      exact ev_isV n v a m (by omega) (h3 a t) (by omega) (by omega)) (by omega)
    have s1 : slD (encV (.lst vs)) (some 1) none = some (.tuple (encVs vs)) := sl_tail _ _
    have l1 : ((PyData.int ((vs.len + 1 : Nat) : Int))) = .int ((vs.len : Int) + 1) := by simp
    have l0 : (((vs.len : Int) + 1) == (0 : Int)) = false := beq_eq_false_iff_ne.mpr (by omega)
    rw [r_is_value, s1, ll3v, l1]
    simp [c, l0]
end K11

namespace K11
open PySem L2 EV
theorem map_len (f : Val → Val) : ∀ vs : VL, (vs.map f).len = vs.len
  | .nil => rfl
  | .cons v r => by simp only [VL.map, VL.len, map_len f r]
theorem map_at {f : Val → Val} : ∀ {vs : VL} {j : Nat} {x y : D}, (encVs vs)[j]? = some x → (encVs (vs.map f))[j]? = some y → ∃ v, x = encV v ∧ y = encV (f v) ∧ szV v ≤ szVs vs ∧ dpV v ≤ dpVs vs ∧ (∀ a, VTs vs a → VT v a)
  | .cons v r, 0, x, y, h, h' => ⟨v, (Option.some.inj h).symm, (Option.some.inj h').symm, by simp only [szVs]; omega, by simp only [dpVs]; omega, fun a t => t.1⟩
  | .cons v r, j + 1, x, y, h, h' => by
    obtain ⟨w, e, e2, h1, h2, h3⟩ := map_at (vs := r) (j := j) h h'
    exact ⟨w, e, e2, by simp only [szVs]; omega, by simp only [dpVs]; omega, fun a t => h3 a t.2⟩
  | .nil, j, x, y, h, _ => by cases j <;> cases h
theorem cm_map {g : D → Option D} {f : Val → Val} {vs : VL} (h : ∀ v, szV v ≤ szVs vs → dpV v ≤ dpVs vs → (∀ a, VTs vs a → VT v a) → g (encV v) = some (encV (f v))) :
    compM (fun x => (g x).bind fun y => some (some y)) (encVs vs) = some (encVs (vs.map f)) :=
  compM_of (by rw [len_enc', len_enc', map_len]) fun j x y h1 h2 => by
    obtain ⟨v, rfl, rfl, h3, h4, h5⟩ := map_at h1 h2
    rw [h v h3 h4 h5, obs1]
theorem limV {vs : VL} (h : vs.len < 1000) : lim (some (encVs vs)) = some (.list (encVs vs)) := limL (by rw [len_enc']; exact h)
theorem tupV {vs : VL} (h : vs.len < 900) : cond (decide ((PyData.str "list" :: encVs vs).length ≤ few)) (some (PyData.tuple (PyData.str "list" :: encVs vs))) none = some (encV (.lst vs)) := by
  rw [fewL (by rw [List.length_cons, len_enc']; omega)]; rfl
@[simp] theorem fail_l (h h' : Hd7) (l : Lab) : ixD (encC (.fail h l h')) (.int 2) = some (encL l) := rfl
theorem isB_f {v : Val} (h : ¬ v.isB = true) : v.isB = false := by simpa using h
theorem ev_seen : ∀ (c : Co) {A B : Ty} (v : Val) (m : Nat), W c A B → OkC c → VT v A → szV v < 400 → dpC c ≤ m → callN T hd.G m "seen" [encC c, encV v] = some (encV (seen c v)) := by
  intro c
  induction c with
  | any =>
    intro A B v m w o t hs hm
    obtain ⟨m, rfl⟩ : ∃ j, m = j + 1 := ⟨m - 1, by have := hm; simp only [dpC] at this; omega⟩
    rw [r_seen, ixv0, obs1, eq_str, vb, eqAny o]
    cases v.isB <;> simp [seen]
  | base b =>
    intro A B v m w o t hs hm
    obtain ⟨m, rfl⟩ : ∃ j, m = j + 1 := ⟨m - 1, by have := hm; simp only [dpC] at this; omega⟩
    rw [r_seen, ixv0, obs1, eq_str, vb, eqAny o]
    cases v.isB <;> simp [seen, tg]
  | fail h l h' =>
    intro A B v m w o t hs hm
    obtain ⟨m, rfl⟩ : ∃ j, m = j + 1 := ⟨m - 1, by have := hm; simp only [dpC] at this; omega⟩
    rw [r_seen, ixv0, obs1, eq_str, vb, eqAny o]
    cases e : v.isB <;> simp [seen, tg, e]
    rfl
  | to c h ih =>
    intro A B v m w o t hs hm
    simp only [dpC] at hm
    obtain ⟨m, rfl⟩ : ∃ j, m = j + 1 := ⟨m - 1, by omega⟩
    have i := ih v m w.2.2 o.t t hs (by omega)
    rw [r_seen, ixv0, obs1, eq_str, vb, eqAny o]
    by_cases e : v.isB = true
    · obtain ⟨l, rfl⟩ := isB_eq e
      rw [seen_b]; simp [Val.isB]
    · rw [isB_f e]
      cases e2 : (seen c v).isB <;> simp [seen, tg, i, vb, e2]
      rfl
  | frm h l c ih =>
    intro A B v m w o t hs hm
    simp only [dpC] at hm
    obtain ⟨m, rfl⟩ : ∃ j, m = j + 1 := ⟨m - 1, by omega⟩
    obtain ⟨hA, mi, w⟩ := w
    subst hA
    rw [r_seen, ixv0, obs1, eq_str, vb, eqAny o]
    cases v with
    | blame l' => simp [Val.isB, seen_b]
    | tag h' x =>
      simp only [szV] at hs
      by_cases e : h = h'
      · subst e
        have i := ih x m w o.f t.2.2 (by omega) (by omega)
        simp [Val.isB, tg, seen, i]
      · have e' : ¬ h' = h := fun x => e x.symm
        simp [Val.isB, tg, seen, e, e']
        rfl
    | int i => simp [VT, hole] at t
    | bool i => simp [VT, hole] at t
    | unit => simp [VT, hole] at t
    | pair _ _ => simp [VT, hole] at t
    | lst _ => simp [VT, hole] at t
  | lst c ih =>
    intro A B v m w o t hs hm
    simp only [dpC] at hm
    obtain ⟨m, rfl⟩ : ∃ j, m = j + 1 := ⟨m - 1, by omega⟩
    obtain ⟨a, b, hA, hB, w⟩ := w
    subst hA hB
    rw [r_seen, ixv0, obs1, eq_str, vb, eqAny o]
    cases v with
    | blame l' => simp [Val.isB, seen_b]
    | lst vs =>
      obtain ⟨a', e, t⟩ := t
      cases e
      simp only [szV] at hs
      have hl := len_sz vs
      have cm := cm_map (g := fun x => callN T hd.G m "seen" [encC c, x]) (f := seen c) (vs := vs) fun v h1 h2 h3 => ih v m w o.i (h3 a t) (by omega) (by omega)
      have hl2 : (vs.map (seen c)).len < 400 := by rw [map_len]; omega
      have s1 : slD (encV (.lst vs)) (some 1) none = some (.tuple (encVs vs)) := sl_tail _ _
      have s2 := limV (vs := vs.map (seen c)) (by omega)
      have s3 := tupV (vs := vs.map (seen c)) (by omega)
      simp only [Val.isB, cf, obs1, ixc0, tg, eq_str, q20, q21, q25, q24, q23, beq_self_eq_true, ct, s1, itT, ixl1, cm, s2, itL, List.append_nil, s3, decide_false, reduceCtorEq]
      rfl
    | int i => simp [VT] at t
    | bool i => simp [VT] at t
    | unit => simp [VT] at t
    | pair _ _ => simp [VT] at t
    | tag _ _ => simp [VT, hole] at t
  | two g c d ihc ihd =>
    intro A B v m w o t hs hm
    simp only [dpC] at hm
    obtain ⟨m, rfl⟩ : ∃ j, m = j + 1 := ⟨m - 1, by omega⟩
    rw [r_seen, ixv0, obs1, eq_str, vb, eqAny o]
    by_cases e : v.isB = true
    · obtain ⟨l, rfl⟩ := isB_eq e
      rw [seen_b]; simp [Val.isB]
    · cases g with
      | pair =>
        obtain ⟨a, a', b, b', hA, hB, w, w'⟩ := w
        subst hA hB
        cases v with
        | pair x y =>
          obtain ⟨a1, b1, e, t1, t2⟩ := t
          cases e
          simp only [szV] at hs
          have i := ihc x m w o.l t1 (by omega) (by omega)
          have j := ihd y m w' o.r t2 (by omega) (by omega)
          simp [Val.isB, tg, seen, i, j]
          rfl
        | blame l' => exact absurd rfl e
        | int i => simp [VT] at t
        | bool i => simp [VT] at t
        | unit => simp [VT] at t
        | lst _ => simp [VT] at t
        | tag _ _ => simp [VT, hole] at t
      | fn =>
        obtain ⟨a, a', b, b', hA, hB, w, w'⟩ := w
        subst hA hB
        cases v with
        | blame l' => exact absurd rfl e
        | int i => simp [VT] at t
        | bool i => simp [VT] at t
        | unit => simp [VT] at t
        | lst _ => simp [VT] at t
        | pair _ _ => simp [VT] at t
        | tag _ _ => simp [VT, hole] at t
      | cell =>
        obtain ⟨a, b, hA, hB, w, w'⟩ := w
        subst hA hB
        cases v with
        | blame l' => exact absurd rfl e
        | int i => simp [VT] at t
        | bool i => simp [VT] at t
        | unit => simp [VT] at t
        | lst _ => simp [VT] at t
        | pair _ _ => simp [VT] at t
        | tag _ _ => simp [VT, hole] at t
end K11

namespace K11
open PySem L2 EV
theorem rng_v {n : Nat} (h : n < 1000) : rng2 (PyData.int 1) (.int ((n + 1 : Nat) : Int)) = some (intRange 1 n) := by
  show cond (small62 1 && small62 ((n + 1 : Nat) : Int)) (some (intRange 1 (((n + 1 : Nat) : Int) - 1).toNat)) none = _
  have h1 : small62 1 = true := by decide
  have h2 : small62 ((n + 1 : Nat) : Int) = true := by
    unfold small62
    rw [Bool.and_eq_true]
    exact ⟨decide_eq_true (by omega), decide_eq_true (by omega)⟩
  rw [h1, h2, show (((n + 1 : Nat) : Int) - 1).toNat = n by omega]; rfl
theorem cm_rng {F : D → Option (Option D)} {f : Val → Val} {vs : VL}
    (h : ∀ (i : Int) v, ixD (encV (.lst vs)) (.int i) = some (encV v) → szV v ≤ szVs vs → (∀ a, VTs vs a → VT v a) → F (.int i) = some (some (encV (f v)))) :
    compM F (intRange 1 vs.len) = some (encVs (vs.map f)) :=
  compM_of (by rw [intRange_length, len_enc', map_len]) fun j x y h1 h2 => by
    have hx := (intRange_get vs.len 1 j x h1).2
    have hj : j < vs.len := by
      have := (List.getElem?_eq_some_iff.mp h1).1
      rw [intRange_length] at this; exact this
    have hz : (encVs vs)[j]? = some ((encVs vs)[j]'(by rw [len_enc']; exact hj)) := List.getElem?_eq_getElem _
    obtain ⟨v, e1, rfl, h3, h4, h5⟩ := map_at hz h2
    rw [hx]
    refine h _ v ?_ h3 h5
    refine ix_tup (by omega) ?_
    rw [show ((1 : Int) + (j : Int)).toNat = j + 1 by omega, List.getElem?_cons_succ, hz, e1]
abbrev I2 : D := PyData.list [(PyData.str "id?"), (PyData.str "id")]
@[simp] theorem i2a : cmpD .In (.str "id?") I2 = some true := by kernel_rfl
@[simp] theorem i2b : cmpD .In (.str "id") I2 = some true := by kernel_rfl
@[simp] theorem i2c : cmpD .In (.str "fail") I2 = some false := by kernel_rfl
@[simp] theorem i2d : cmpD .In (.str "from") I2 = some false := by kernel_rfl
@[simp] theorem i2e : cmpD .In (.str "to") I2 = some false := by kernel_rfl
@[simp] theorem i2f : cmpD .In (.str "list") I2 = some false := by kernel_rfl
@[simp] theorem i2g (g : G2) : cmpD .In (.str (n7 g.h)) I2 = some false := by cases g <;> kernel_rfl
theorem bl_first (k : Nat) (c : Co) (l : Lab) : callN T hd.G (k + 1) "_law_seen" [encC c, encV (.blame l)] = some (encV (.blame l)) := by
  rw [r__law_seen]; simp
theorem lw_seen : ∀ (c : Co) {A B : Ty} (v : Val) (m : Nat), W c A B → VT v A → szV v < 400 → dpC c ≤ m → callN T hd.G m "_law_seen" [encC c, encV v] = some (encV (seen c v)) := by
  intro c
  induction c with
  | any =>
    intro A B v m w t hs hm
    obtain ⟨m, rfl⟩ : ∃ j, m = j + 1 := ⟨m - 1, by have := hm; simp only [dpC] at this; omega⟩
    rw [r__law_seen, ixv0, obs1, eq_str, vb]
    cases v.isB <;> simp [seen, tg]
  | base b =>
    intro A B v m w t hs hm
    obtain ⟨m, rfl⟩ : ∃ j, m = j + 1 := ⟨m - 1, by have := hm; simp only [dpC] at this; omega⟩
    rw [r__law_seen, ixv0, obs1, eq_str, vb]
    cases v.isB <;> simp [seen, tg]
  | fail h l h' =>
    intro A B v m w t hs hm
    obtain ⟨m, rfl⟩ : ∃ j, m = j + 1 := ⟨m - 1, by have := hm; simp only [dpC] at this; omega⟩
    rw [r__law_seen, ixv0, obs1, eq_str, vb]
    cases e : v.isB <;> simp [seen, tg, e]
    rfl
  | to c h ih =>
    intro A B v m w t hs hm
    simp only [dpC] at hm
    obtain ⟨m, rfl⟩ : ∃ j, m = j + 1 := ⟨m - 1, by omega⟩
    have i := ih v m w.2.2 t hs (by omega)
    by_cases e : v.isB = true
    · obtain ⟨l, rfl⟩ := isB_eq e
      rw [seen_b, bl_first]
    · rw [r__law_seen, ixv0, obs1, eq_str, vb, isB_f e]
      cases e2 : (seen c v).isB <;> simp [seen, tg, i, vb, e2]
      rfl
  | frm h l c ih =>
    intro A B v m w t hs hm
    simp only [dpC] at hm
    obtain ⟨m, rfl⟩ : ∃ j, m = j + 1 := ⟨m - 1, by omega⟩
    obtain ⟨hA, mi, w⟩ := w
    subst hA
    cases v with
    | blame l' => rw [seen_b, bl_first]
    | tag h' x =>
      simp only [szV] at hs
      rw [r__law_seen]
      by_cases e : h = h'
      · subst e
        have i := ih x m w t.2.2 (by omega) (by omega)
        simp [tg, seen, i]
      · have e' : ¬ h' = h := fun x => e x.symm
        simp [tg, seen, e, e']
        rfl
    | int i => simp [VT, hole] at t
    | bool i => simp [VT, hole] at t
    | unit => simp [VT, hole] at t
    | pair _ _ => simp [VT, hole] at t
    | lst _ => simp [VT, hole] at t
  | lst c ih =>
    intro A B v m w t hs hm
    simp only [dpC] at hm
    obtain ⟨m, rfl⟩ : ∃ j, m = j + 1 := ⟨m - 1, by omega⟩
    obtain ⟨a, b, hA, hB, w⟩ := w
    subst hA hB
    cases v with
    | blame l' => rw [seen_b, bl_first]
    | lst vs =>
      obtain ⟨a', e, t⟩ := t
      cases e
      simp only [szV] at hs
      have hl := len_sz vs
      have hl2 : (vs.map (seen c)).len < 400 := by rw [map_len]; omega
      have s2 := limV (vs := vs.map (seen c)) (by omega)
      have s3 : binD .Add (.tuple [.str "list"]) (.tuple (encVs (vs.map (seen c)))) = some (encV (.lst (vs.map (seen c)))) := by
        show cond (decide (1 + (encVs (vs.map (seen c))).length ≤ few)) _ none = _
        rw [fewL (by rw [len_enc']; omega)]; rfl
      rw [r__law_seen]
      simp only [ixv0, vg6, obs1, eq_str, vs42, ct, cf, ixc0, tg, i2f, q25, q24, q23, ll3v, rng_v (show vs.len < 1000 by omega), beq_self_eq_true, Option.map_some, int_b, cond_true, ixl1', ixl1, List.length_cons, List.length_nil, Nat.zero_add, Nat.reduceAdd, few1]
      rw [cm_rng (vs := vs) (f := seen c)]
      · rw [s2]
        simp only [obs1, tuL, s3]
        rfl
      · intro i v hv h1 h2
        rw [hv]
        simp only [obs1, ih v m w (h2 a t) (by omega) (by omega)]
    | int i => simp [VT] at t
    | bool i => simp [VT] at t
    | unit => simp [VT] at t
    | pair _ _ => simp [VT] at t
    | tag _ _ => simp [VT, hole] at t
  | two g c d ihc ihd =>
    intro A B v m w t hs hm
    simp only [dpC] at hm
    obtain ⟨m, rfl⟩ : ∃ j, m = j + 1 := ⟨m - 1, by omega⟩
    by_cases e : v.isB = true
    · obtain ⟨l, rfl⟩ := isB_eq e
      rw [seen_b, bl_first]
    · cases g with
      | pair =>
        obtain ⟨a, a', b, b', hA, hB, w, w'⟩ := w
        subst hA hB
        cases v with
        | pair x y =>
          obtain ⟨a1, b1, e, t1, t2⟩ := t
          cases e
          simp only [szV] at hs
          have i := ihc x m w t1 (by omega) (by omega)
          have j := ihd y m w' t2 (by omega) (by omega)
          rw [r__law_seen]
          simp [tg, seen, i, j, compM]
          rfl
        | blame l' => exact absurd rfl e
        | int i => simp [VT] at t
        | bool i => simp [VT] at t
        | unit => simp [VT] at t
        | lst _ => simp [VT] at t
        | tag _ _ => simp [VT, hole] at t
      | fn =>
        obtain ⟨a, a', b, b', hA, hB, w, w'⟩ := w
        subst hA hB
        cases v with
        | blame l' => exact absurd rfl e
        | int i => simp [VT] at t
        | bool i => simp [VT] at t
        | unit => simp [VT] at t
        | lst _ => simp [VT] at t
        | pair _ _ => simp [VT] at t
        | tag _ _ => simp [VT, hole] at t
      | cell =>
        obtain ⟨a, b, hA, hB, w, w'⟩ := w
        subst hA hB
        cases v with
        | blame l' => exact absurd rfl e
        | int i => simp [VT] at t
        | bool i => simp [VT] at t
        | unit => simp [VT] at t
        | lst _ => simp [VT] at t
        | pair _ _ => simp [VT] at t
        | tag _ _ => simp [VT, hole] at t
end K11

namespace K11
open PySem L2 EV
abbrev BT : D := PyData.tuple [(PyData.str "blame"), (PyData.str "tag")]
@[simp] theorem bt1 : cmpD .In (.str "blame") BT = some true := by kernel_rfl
@[simp] theorem bt2 : cmpD .In (.str "tag") BT = some true := by kernel_rfl
abbrev IX : D := PyData.tuple [(PyData.str "id"), (PyData.str "fail")]
@[simp] theorem ix_1 : cmpD .In (.str "id") IX = some true := by kernel_rfl
@[simp] theorem ix_2 : cmpD .In (.str "fail") IX = some true := by kernel_rfl
@[simp] theorem ix_3 : cmpD .In (.str "list") IX = some false := by kernel_rfl
@[simp] theorem ix_4 (g : G2) : cmpD .In (.str (n7 g.h)) IX = some false := by cases g <;> kernel_rfl
abbrev FC : D := PyData.tuple [(PyData.str "fun"), (PyData.str "cell")]
@[simp] theorem fc_1 : cmpD .In (.str "list") FC = some false := by kernel_rfl
@[simp] theorem fc_2 : cmpD .In (.str "pair") FC = some false := by kernel_rfl
@[simp] theorem pq1 : (("pair" : Str) == ("from" : Str)) = false := by decide +kernel
@[simp] theorem pq2 : (("pair" : Str) == ("to" : Str)) = false := by decide +kernel
@[simp] theorem pq3 : cmpD .In (.str "pair") IX = some false := by kernel_rfl
theorem dt_bl (k : Nat) (c : Co) (l : Lab) : callN T hd.G (k + 1) "does_take" [encC c, encV (.blame l)] = some (.bool true) := by
  rw [r_does_take]; simp
theorem vt_hd {v : Val} {A : Ty} (nb : v.isB = false) (t : VT v A) {h : Hd7} (e : headT A = some h) : vtg v = n7 h := by
  cases v with
  | blame l => cases nb
  | int i => simp only [VT] at t; subst t; cases e; rfl
  | bool i => simp only [VT] at t; subst t; cases e; rfl
  | unit => simp only [VT] at t; subst t; cases e; rfl
  | tag h' x => simp only [VT] at t; obtain ⟨t, _⟩ := t; subst t; cases e
  | pair _ _ => simp only [VT] at t; obtain ⟨a, b, t, _⟩ := t; subst t; cases e; rfl
  | lst _ => simp only [VT] at t; obtain ⟨a, t, _⟩ := t; subst t; cases e; rfl
theorem ev_take : ∀ (c : Co) {A B : Ty} (v : Val) (m : Nat), W c A B → OkC c → VT v A → szV v < 400 → dpC c ≤ m → callN T hd.G m "does_take" [encC c, encV v] = some (.bool true) := by
  intro c
  induction c with
  | any =>
    intro A B v m w o t hs hm
    obtain ⟨m, rfl⟩ : ∃ j, m = j + 1 := ⟨m - 1, by have := hm; simp only [dpC] at this; omega⟩
    rw [w.1] at t
    cases v with
    | blame l' => exact dt_bl _ _ _
    | tag h' x => rw [r_does_take, eqAny o]; simp
    | int i => simp [VT, hole] at t
    | bool i => simp [VT, hole] at t
    | unit => simp [VT, hole] at t
    | pair _ _ => simp [VT, hole] at t
    | lst _ => simp [VT, hole] at t
  | base b =>
    intro A B v m w o t hs hm
    obtain ⟨m, rfl⟩ : ∃ j, m = j + 1 := ⟨m - 1, by have := hm; simp only [dpC] at this; omega⟩
    by_cases e : v.isB = true
    · obtain ⟨l, rfl⟩ := isB_eq e
      exact dt_bl _ _ _
    · have hv := vt_hd (isB_f e) t (by rw [w.1]; exact headB b)
      rw [r_does_take, eqAny o, ixv0, obs1, eq_str, vb, isB_f e]
      simp [tg, hv]
  | fail h l h' =>
    intro A B v m w o t hs hm
    obtain ⟨m, rfl⟩ : ∃ j, m = j + 1 := ⟨m - 1, by have := hm; simp only [dpC] at this; omega⟩
    by_cases e : v.isB = true
    · obtain ⟨l, rfl⟩ := isB_eq e
      exact dt_bl _ _ _
    · have hv := vt_hd (isB_f e) t w.1
      rw [r_does_take, eqAny o, ixv0, obs1, eq_str, vb, isB_f e]
      simp [tg, hv]
  | to c h ih =>
    intro A B v m w o t hs hm
    simp only [dpC] at hm
    obtain ⟨m, rfl⟩ : ∃ j, m = j + 1 := ⟨m - 1, by omega⟩
    have i := ih v m w.2.2 o.t t hs (by omega)
    by_cases e : v.isB = true
    · obtain ⟨l, rfl⟩ := isB_eq e
      exact dt_bl _ _ _
    · rw [r_does_take, eqAny o, ixv0, obs1, eq_str, vb, isB_f e]
      simp [tg, i]
  | frm h l c ih =>
    intro A B v m w o t hs hm
    simp only [dpC] at hm
    obtain ⟨m, rfl⟩ : ∃ j, m = j + 1 := ⟨m - 1, by omega⟩
    obtain ⟨hA, mi, w⟩ := w
    subst hA
    cases v with
    | blame l' => exact dt_bl _ _ _
    | tag h' x =>
      simp only [szV] at hs
      rw [r_does_take, eqAny o]
      by_cases e : h = h'
      · subst e
        have i := ih x m w o.f t.2.2 (by omega) (by omega)
        simp [tg, i]
      · have e' : ¬ h' = h := fun x => e x.symm
        simp [tg, e']
    | int i => simp [VT, hole] at t
    | bool i => simp [VT, hole] at t
    | unit => simp [VT, hole] at t
    | pair _ _ => simp [VT, hole] at t
    | lst _ => simp [VT, hole] at t
  | lst c ih =>
    intro A B v m w o t hs hm
    simp only [dpC] at hm
    obtain ⟨m, rfl⟩ : ∃ j, m = j + 1 := ⟨m - 1, by omega⟩
    obtain ⟨a, b, hA, hB, w⟩ := w
    subst hA hB
    cases v with
    | blame l' => exact dt_bl _ _ _
    | lst vs =>
      obtain ⟨a', e, t⟩ := t
      cases e
      simp only [szV] at hs
      have hl := len_sz vs
      have cm := cm_true (g := fun x => callN T hd.G m "does_take" [encC c, x]) (vs := vs) (fun j x h => by
        obtain ⟨v, rfl, h1, h2, h3⟩ := mem_vs h
        exact ih v m w o.i (h3 a t) (by omega) (by omega)) (by omega)
      have s1 : slD (encV (.lst vs)) (some 1) none = some (.tuple (encVs vs)) := sl_tail _ _
      rw [r_does_take, eqAny o, s1]
      simp [tg, cm]
    | int i => simp [VT] at t
    | bool i => simp [VT] at t
    | unit => simp [VT] at t
    | pair _ _ => simp [VT] at t
    | tag _ _ => simp [VT, hole] at t
  | two g c d ihc ihd =>
    intro A B v m w o t hs hm
    simp only [dpC] at hm
    obtain ⟨m, rfl⟩ : ∃ j, m = j + 1 := ⟨m - 1, by omega⟩
    by_cases e : v.isB = true
    · obtain ⟨l, rfl⟩ := isB_eq e
      exact dt_bl _ _ _
    · cases g with
      | pair =>
        obtain ⟨a, a', b, b', hA, hB, w, w'⟩ := w
        subst hA hB
        cases v with
        | pair x y =>
          obtain ⟨a1, b1, e, t1, t2⟩ := t
          cases e
          simp only [szV] at hs
          have i := ihc x m w o.l t1 (by omega) (by omega)
          have j := ihd y m w' o.r t2 (by omega) (by omega)
          have hp : n7 G2.pair.h = "pair" := rfl
          rw [r_does_take, eqAny o]
          simp [tg, i, j, hp]
        | blame l' => exact absurd rfl e
        | int i => simp [VT] at t
        | bool i => simp [VT] at t
        | unit => simp [VT] at t
        | lst _ => simp [VT] at t
        | tag _ _ => simp [VT, hole] at t
      | fn =>
        obtain ⟨a, a', b, b', hA, hB, w, w'⟩ := w
        subst hA hB
        cases v with
        | blame l' => exact absurd rfl e
        | int i => simp [VT] at t
        | bool i => simp [VT] at t
        | unit => simp [VT] at t
        | lst _ => simp [VT] at t
        | pair _ _ => simp [VT] at t
        | tag _ _ => simp [VT, hole] at t
      | cell =>
        obtain ⟨a, b, hA, hB, w, w'⟩ := w
        subst hA hB
        cases v with
        | blame l' => exact absurd rfl e
        | int i => simp [VT] at t
        | bool i => simp [VT] at t
        | unit => simp [VT] at t
        | lst _ => simp [VT] at t
        | pair _ _ => simp [VT] at t
        | tag _ _ => simp [VT, hole] at t
theorem ev_app {c : Co} {A B : Ty} {v : Val} (w : W c A B) (o : OkC c) (t : VT v A) (hs : szV v < 400) (hd' : dpV v ≤ 50) {k : Nat} (hk : 160 ≤ k) : callN T hd.G k "applied" [encC c, encV v] = some (encV (seen c v)) := by
  obtain ⟨k, rfl⟩ : ∃ j, k = j + 1 := ⟨k - 1, by omega⟩
  have oo : dpC c ≤ 50 := o
  rw [r_applied, ev_chkC w o (by omega), ev_isV 50 v A k hd' t (by omega) (by omega), ev_take c v k w o t hs (by omega), ev_seen c v k w o t hs (by omega)]
  rfl
end K11

namespace K11
open PySem L2 EV
def al : Co → Co → Bool
  | .any, .any => true
  | .base b, .base b' => decide (b = b')
  | .two g c d, .two g' c' d' => decide (g = g') && (al c c' && al d d')
  | .lst c, .lst c' => al c c'
  | .frm h l c, .frm h' l' c' => decide (h = h') && (decide (l = l') && al c c')
  | .to c h, .to c' h' => decide (h = h') && al c c'
  | .fail h l _, .fail h' l' _ => decide (h = h') && decide (l = l')
  | _, _ => false
def encB : Co → D
  | .any => .tuple [.str "id?"]
  | .base b => .tuple [.str "id", .str (n7 b.h)]
  | .two g c d => .tuple [.str (n7 g.h), encB c, encB d]
  | .lst c => .tuple [.str "list", encB c]
  | .frm h l c => .tuple [.str "from", .str (n7 h), encL l, encB c]
  | .to c h => .tuple [.str "to", encB c, .str (n7 h)]
  | .fail h l _ => .tuple [.str "fail", .str (n7 h), encL l]
theorem eqvB : ∀ c d : Co, PyData.eqv (encB c) (encB d) = al c d := by
  intro c
  induction c with
  | any => intro d; cases d <;> simp [encB, v_tt, v_ss, v_cc, v_nn, v_nc, v_cn, al]
  | base b => intro d; cases d <;> simp [encB, v_tt, v_ss, v_cc, v_nn, v_nc, v_cn, al]
  | two g c c' i j => intro d; cases d <;> simp [encB, v_tt, v_ss, v_cc, v_nn, v_nc, v_cn, al, i, j]
  | lst c i => intro d; cases d <;> simp [encB, v_tt, v_ss, v_cc, v_nn, v_nc, v_cn, al, i]
  | frm h l c i => intro d; cases d <;> simp [encB, v_tt, v_ss, v_cc, v_nn, v_nc, v_cn, al, i, eqvL]
  | to c h i => intro d; cases d <;> simp [encB, v_tt, v_ss, v_cc, v_nn, v_nc, v_cn, al, i, Bool.and_comm]
  | fail h l h' => intro d; cases d <;> simp [encB, v_tt, v_ss, v_cc, v_nn, v_nc, v_cn, al, eqvL]
theorem dleB : ∀ (c : Co) (n : Nat), dpC c ≤ n → dle n (encB c) = true
  | c, 0, h => by have := dpC1 c; omega
  | .any, n + 1, _ => by simp [encB]
  | .base _, n + 1, _ => by simp [encB]
  | .two _ c d, n + 1, h => by
    simp only [dpC] at h
    simp [encB, dleB c n (by omega), dleB d n (by omega)]
  | .lst c, n + 1, h => by
    simp only [dpC] at h
    simp [encB, dleB c n (by omega)]
  | .frm _ l c, n + 1, h => by
    simp only [dpC] at h
    obtain ⟨m, rfl⟩ : ∃ m, n = m + 1 := ⟨n - 1, by omega⟩
    simp [encB, dleL, dleB c (m + 1) (by omega)]
  | .to c _, n + 1, h => by
    simp only [dpC] at h
    simp [encB, dleB c n (by omega)]
  | .fail _ l _, n + 1, h => by
    simp only [dpC] at h
    obtain ⟨m, rfl⟩ : ∃ m, n = m + 1 := ⟨n - 1, by omega⟩
    simp [encB, dleL]
theorem eqB {a b : Co} (ha : OkC a) (hb : OkC b) : cmpD .Eq (encB a) (encB b) = some (al a b) := by
  unfold OkC at ha hb
  show cond (dle 60 (encB a) && dle 60 (encB b)) _ none = _
  rw [dleB a 60 (by omega), dleB b 60 (by omega), eqvB]; rfl
/-! ### bare, by the law -/
abbrev bbG : List Sl → D → Option (List Sl) := fun σ x => asg f__law_bare.N σ (forT (stAt f__law_bare.body 2)) x
abbrev bbB (k : Nat) : List Sl → Option Fl := fun σ => exs ⟨f__law_bare.N, hd.G, callN T hd.G k⟩ 56 σ (forB (stAt f__law_bare.body 2))
theorem addTT {xs ys : List D} (h : xs.length + ys.length < 1000) : binD .Add (.tuple xs) (.tuple ys) = some (.tuple (xs ++ ys)) := by
  show cond (decide (xs.length + ys.length ≤ few)) _ none = _
  rw [fewL h]; rfl
theorem bb_str (k : Nat) (w0 : D) (L : List D) (s : Sl) (x : Str) (r : List D) (hL : L.length < 500) : forL bbG (bbB k) (.str x :: r) [Sl.sh w0, Sl.sh (.tuple L), s] = forL bbG (bbB k) r [Sl.sh w0, Sl.sh (.tuple (L ++ [.str x])), Sl.sh (.str x)] := by
  refine forL_next (r__law_bare_2g _ _ _ _) ?_
  refine (r__law_bare_2b _ _ _ _).trans ?_
  have t1 : isTy .tuple (.str x) = some false := rfl
  simp only [t1, Option.map_some, obs1, tru_b, cf, rd_sh, addTT (xs := L) (ys := [.str x]) (by simp; omega)]
  rfl
theorem bb_lab (k : Nat) (w0 : D) (L : List D) (s : Sl) (l : Lab) (r : List D) (hL : L.length < 500) : forL bbG (bbB k) (encL l :: r) [Sl.sh w0, Sl.sh (.tuple L), s] = forL bbG (bbB k) r [Sl.sh w0, Sl.sh (.tuple (L ++ [encL l])), Sl.sh (encL l)] := by
  refine forL_next (r__law_bare_2g _ _ _ _) ?_
  refine (r__law_bare_2b _ _ _ _).trans ?_
  have t2 : isTy .str (.int (l.n : Int)) = some false := rfl
  simp only [isiL, ixL0, t2, Option.map_some, obs1, tru_b, ct, cf, rd_sh, addTT (xs := L) (ys := [encL l]) (by simp; omega)]
  rfl
theorem bb_co (k : Nat) (w0 : D) (L : List D) (s : Sl) (c : Co) (r : List D) (hL : L.length < 500) (h : callN T hd.G k "_law_bare" [encC c] = some (encB c)) : forL bbG (bbB k) (encC c :: r) [Sl.sh w0, Sl.sh (.tuple L), s] = forL bbG (bbB k) r [Sl.sh w0, Sl.sh (.tuple (L ++ [encB c])), Sl.sh (encC c)] := by
  refine forL_next (r__law_bare_2g _ _ _ _) ?_
  refine (r__law_bare_2b _ _ _ _).trans ?_
  have t2 : isTy .str (.str (tg c)) = some true := rfl
  simp only [isiC, ixc0, t2, Option.map_some, obs1, tru_b, ct, cf, rd_sh, h, List.length_cons, List.length_nil, Nat.zero_add, few1, addTT (xs := L) (ys := [encB c]) (by simp; omega)]
  rfl
theorem bb_end {k : Nat} {c : Co} {xs M : List D} (h : items (encC c) = some xs) (f : (tg c == ("fail" : Str)) = false) {s : Sl} (e : forL bbG (bbB k) xs [Sl.sh (encC c), Sl.sh (.tuple []), Sl.un] = some (.next [Sl.sh (encC c), Sl.sh (.tuple M), s])) :
    callN T hd.G (k + 1) "_law_bare" [encC c] = some (.tuple M) := by
  rw [r__law_bare, ixc0, obs1, eq_str, f, obs1, cf, h, obs1]
  show (forL bbG (bbB k) xs [Sl.sh (encC c), Sl.sh (.tuple []), Sl.un]).bind _ = _
  rw [e, obs1]
  show exsK _ 57 _ _ _ = _
  rw [r__law_bare_2a]; rfl
theorem ev_bare : ∀ (c : Co) (m : Nat), dpC c ≤ m → callN T hd.G m "_law_bare" [encC c] = some (encB c)
  | c, 0, h => by have := dpC1 c; omega
  | .any, m + 1, _ => bb_end (xs := [.str "id?"]) rfl (by simp [tg]) (by rw [bb_str _ _ _ _ _ _ (by decide), forL_nil]; rfl)
  | .base b, m + 1, _ => bb_end (xs := [.str "id", .str (n7 b.h)]) rfl (by simp [tg]) (by rw [bb_str _ _ _ _ _ _ (by decide), bb_str _ _ _ _ _ _ (by simp), forL_nil]; rfl)
  | .fail h l h', m + 1, _ => by
    rw [r__law_bare, ixc0, obs1, eq_str, show (tg (.fail h l h') == ("fail" : Str)) = true by simp [tg], obs1, ct]
    rfl
  | .two g c d, m + 1, hk => by
    simp only [dpC] at hk
    exact bb_end (xs := [.str (n7 g.h), encC c, encC d]) rfl (by simp [tg]) (by
      rw [bb_str _ _ _ _ _ _ (by decide), bb_co _ _ _ _ _ _ (by simp) (ev_bare c m (by omega)), bb_co _ _ _ _ _ _ (by simp) (ev_bare d m (by omega)), forL_nil]; rfl)
  | .lst c, m + 1, hk => by
    simp only [dpC] at hk
    exact bb_end (xs := [.str "list", encC c]) rfl (by simp [tg]) (by
      rw [bb_str _ _ _ _ _ _ (by decide), bb_co _ _ _ _ _ _ (by simp) (ev_bare c m (by omega)), forL_nil]; rfl)
  | .frm h l c, m + 1, hk => by
    simp only [dpC] at hk
    exact bb_end (xs := [.str "from", .str (n7 h), encL l, encC c]) rfl (by simp [tg]) (by
      rw [bb_str _ _ _ _ _ _ (by decide), bb_str _ _ _ _ _ _ (by simp), bb_lab _ _ _ _ _ _ (by simp), bb_co _ _ _ _ _ _ (by simp) (ev_bare c m (by omega)), forL_nil]; rfl)
  | .to c h, m + 1, hk => by
    simp only [dpC] at hk
    exact bb_end (xs := [.str "to", encC c, .str (n7 h)]) rfl (by simp [tg]) (by
      rw [bb_str _ _ _ _ _ _ (by decide), bb_co _ _ _ _ _ _ (by simp) (ev_bare c m (by omega)), bb_str _ _ _ _ _ _ (by simp), forL_nil]; rfl)
/-! ### alike, by the program -/
theorem al_tag {c d : Co} (h : (tg c == tg d) = false) : al c d = false := by
  cases c <;> cases d <;> first | rfl | skip
  · simp [tg] at h
  · simp [tg] at h
  · simp only [tg, n77, gh, decide_eq_false_iff_not] at h; simp [al, h]
  · simp [tg] at h
  · simp [tg] at h
  · simp [tg] at h
  · simp [tg] at h
theorem ncs_tag {c d : Co} (h : (tg c == tg d) = true) : ncs c = ncs d := by
  cases c <;> cases d <;> first | rfl | (simp [tg] at h)
@[simp] theorem as_al (a b x y : D) : asg f_are_alike.N [Sl.sh a, Sl.sh b, Sl.un, Sl.un, Sl.un] (nmT ["a", "b"]) (.tuple [x, y]) = some [Sl.sh a, Sl.sh b, Sl.un, Sl.sh x, Sl.sh y] := by kernel_rfl
@[simp] theorem sl13a (h h' : Hd7) (l : Lab) : slD (encC (.fail h l h')) (some 1) (some 3) = some (.tuple [.str (n7 h), encL l]) := by kernel_rfl
@[simp] theorem sl13b (h : Hd7) (l : Lab) (c : Co) : slD (encC (.frm h l c)) (some 1) (some 3) = some (.tuple [.str (n7 h), encL l]) := by kernel_rfl
theorem eqHL (h h' : Hd7) (l l' : Lab) : cmpD .Eq (.tuple [.str (n7 h), encL l]) (.tuple [.str (n7 h'), encL l']) = some (decide (h = h') && decide (l = l')) := by
  have hd1 : ∀ (h : Hd7) (l : Lab), dle 60 (.tuple [.str (n7 h), encL l]) = true := by
    intro h l
    have := dleL l 58
    show (dle 59 (.str (n7 h)) && (dle 59 (encL l) && dles 59 [])) = true
    rw [this]; simp
  show cond (dle 60 (.tuple [.str (n7 h), encL l]) && dle 60 (.tuple [.str (n7 h'), encL l'])) (some (PyData.eqv (.tuple [.str (n7 h), encL l]) (.tuple [.str (n7 h'), encL l']))) none = _
  rw [hd1, hd1, v_tt, v_cc, v_cc, v_nn, v_ss, eqvL, n77]; simp
abbrev I3 : D := PyData.tuple [(PyData.str "id?"), (PyData.str "id")]
@[simp] theorem i3a : cmpD .In (.str "id?") I3 = some true := by kernel_rfl
@[simp] theorem i3b : cmpD .In (.str "id") I3 = some true := by kernel_rfl
@[simp] theorem i3e : cmpD .In (.str "to") I3 = some false := by kernel_rfl
@[simp] theorem i3f : cmpD .In (.str "list") I3 = some false := by kernel_rfl
@[simp] theorem i3g (g : G2) : cmpD .In (.str (n7 g.h)) I3 = some false := by cases g <;> kernel_rfl
theorem to_hd {c c' : Co} {A : Ty} {h h' : Hd7} (p : isPl c = true) (w : W c A (wide h)) (p' : isPl c' = true) (w' : W c' A (wide h')) : h = h' := by
  have a := (W.src_pl p w).1
  have b := (W.src_pl p' w').1
  rw [src_to p w] at a
  rw [src_to p' w'] at b
  rw [a] at b
  exact Option.some.inj b
theorem zp2' (x y x' y' : D) : zipD (.tuple [x, x']) (.tuple [y, y']) = some [.tuple [x, y], .tuple [x', y']] := rfl
theorem al_pre {c d : Co} (t : (tg c == tg d) = true) {k : Nat} : callN T hd.G (k + 1) "are_alike" [encC c, encC d] = callN T hd.G (k + 1) "are_alike" [encC c, encC d] := rfl
theorem ev_al : ∀ (c d : Co) {A B : Ty} (m : Nat), W c A B → W d A B → OkC c → OkC d → dpC c ≤ m → callN T hd.G m "are_alike" [encC c, encC d] = some (.bool (al c d)) := by
  intro c
  induction c with
  | any =>
    intro d A B m w w' o o' hm
    obtain ⟨m, rfl⟩ : ∃ j, m = j + 1 := ⟨m - 1, by have := hm; simp only [dpC] at this; omega⟩
    have eo := eqC o o'
    cases d <;> rw [r_are_alike] <;> simp [tg, al, ncs, eo]
  | base b =>
    intro d A B m w w' o o' hm
    obtain ⟨m, rfl⟩ : ∃ j, m = j + 1 := ⟨m - 1, by have := hm; simp only [dpC] at this; omega⟩
    have eo := eqC o o'
    cases d <;> rw [r_are_alike] <;> simp [tg, al, ncs, eo]
  | fail h l h' =>
    intro d A B m w w' o o' hm
    obtain ⟨m, rfl⟩ : ∃ j, m = j + 1 := ⟨m - 1, by have := hm; simp only [dpC] at this; omega⟩
    cases d <;> rw [r_are_alike] <;> simp [tg, al, ncs, eqHL]
  | to c h ih =>
    intro d A B m w w' o o' hm
    simp only [dpC] at hm
    obtain ⟨m, rfl⟩ : ∃ j, m = j + 1 := ⟨m - 1, by omega⟩
    cases d with
    | to c' h' =>
      have e := to_hd w.2.1 w.2.2 w'.2.1 w'.2.2
      subst e
      have i := ih c' m w.2.2 w'.2.2 o.t o'.t (by omega)
      rw [r_are_alike]; simp [tg, al, ncs, i]
    | _ => rw [r_are_alike]; simp [tg, al, ncs]
  | frm h l c ih =>
    intro d A B m w w' o o' hm
    simp only [dpC] at hm
    obtain ⟨m, rfl⟩ : ∃ j, m = j + 1 := ⟨m - 1, by omega⟩
    cases d with
    | frm h' l' c' =>
      by_cases e : h = h'
      · subst e
        have i := ih c' m w.2.2 w'.2.2 o.f o'.f (by omega)
        rw [r_are_alike]
        by_cases e2 : l = l'
        · simp [tg, al, ncs, eqHL, i, e2]
        · simp [tg, al, ncs, eqHL, e2]
      · rw [r_are_alike]; simp [tg, al, ncs, eqHL, e]
    | _ => rw [r_are_alike]; simp [tg, al, ncs]
  | lst c ih =>
    intro d A B m w w' o o' hm
    simp only [dpC] at hm
    obtain ⟨m, rfl⟩ : ∃ j, m = j + 1 := ⟨m - 1, by omega⟩
    cases d with
    | lst c' =>
      obtain ⟨a, b, hA, hB, w⟩ := w
      obtain ⟨a', b', hA', hB', w'⟩ := w'
      rw [hA] at hA'; cases hA'
      rw [hB] at hB'; cases hB'
      have i := ih c' m w w' o.i o'.i (by omega)
      rw [r_are_alike]; simp [tg, al, ncs, compM, i]
    | _ => rw [r_are_alike]; simp [tg, al, ncs]
  | two g c c1 ih ih1 =>
    intro d A B m w w' o o' hm
    simp only [dpC] at hm
    obtain ⟨m, rfl⟩ : ∃ j, m = j + 1 := ⟨m - 1, by omega⟩
    cases d with
    | two g' d d1 =>
      by_cases e : g = g'
      · subst e
        have key : ∀ {P Q P' Q' : Ty}, W c P Q → W d P Q → W c1 P' Q' → W d1 P' Q' → callN T hd.G (m + 1) "are_alike" [encC (.two g c c1), encC (.two g d d1)] = some (.bool (al (.two g c c1) (.two g d d1))) := by
          intro P Q P' Q' u1 u2 u3 u4
          have i := ih d m u1 u2 o.l o'.l (by omega)
          have j := ih1 d1 m u3 u4 o.r o'.r (by omega)
          rw [r_are_alike]; simp [tg, al, ncs, compM, i, j]
        cases g with
        | pair =>
          obtain ⟨a, a1, b, b1, hA, hB, w1, w2⟩ := w
          obtain ⟨a', a1', b', b1', hA', hB', w1', w2'⟩ := w'
          rw [hA] at hA'; cases hA'
          rw [hB] at hB'; cases hB'
          exact key w1 w1' w2 w2'
        | fn =>
          obtain ⟨a, a1, b, b1, hA, hB, w1, w2⟩ := w
          obtain ⟨a', a1', b', b1', hA', hB', w1', w2'⟩ := w'
          rw [hA] at hA'; cases hA'
          rw [hB] at hB'; cases hB'
          exact key w1 w1' w2 w2'
        | cell =>
          obtain ⟨a, b, hA, hB, w1, w2⟩ := w
          obtain ⟨a', b', hA', hB', w1', w2'⟩ := w'
          rw [hA] at hA'; cases hA'
          rw [hB] at hB'; cases hB'
          exact key w1 w1' w2 w2'
      · rw [r_are_alike]; simp [tg, al, ncs, e]
    | _ => rw [r_are_alike]; simp [tg, al, ncs]
theorem ev_alike {c d : Co} {A B : Ty} (w : W c A B) (w' : W d A B) (o : OkC c) (o' : OkC d) {k : Nat} (hk : 160 ≤ k) : callN T hd.G k "alike" [encC c, encC d] = some (.bool (al c d)) := by
  obtain ⟨k, rfl⟩ : ∃ j, k = j + 1 := ⟨k - 1, by omega⟩
  have oo : dpC c ≤ 50 := o
  rw [r_alike, ev_chkC w o (by omega), ev_chkC w' o' (by omega), ev_al c d k w w' o o' (by omega)]
  rfl
end K11

namespace K11
open PySem L2 EV
def pairP (xs ys : List Val) : List Val := xs.map (fun v => Val.pair v (ys.headD .unit)) ++ ys.tail.map (fun w => Val.pair (xs.headD .unit) w)
def lst1 (v : Val) : Val := .lst (.cons v .nil)
def prH : Nat → List Val
  | 0 => [.tag .int (.int 0)]
  | n + 1 => ([.tag .int (.int 0), .tag .bool (.bool true), .tag .unit .unit] ++ (pairP (prH n) (prH n)).map (Val.tag .pair)) ++ ((prH n).map lst1).map (Val.tag .list)
def pr : Ty → Nat → List Val
  | .t0 .hole, h => prH h
  | .t0 .int, _ => [.int 0] | .t0 .bool, _ => [.bool true] | .t0 .unit, _ => [.unit]
  | .t1 .list a, h => (pr a (h - 1)).map lst1
  | .t2 .pair a b, h => pairP (pr a (h - 1)) (pr b (h - 1))
  | .t1 .cell _, _ => []
  | .t2 .fn _ _, _ => []
def flT : Ty → Bool
  | .t0 _ => true | .t1 .list a => flT a | .t2 .pair a b => flT a && flT b | .t1 .cell _ => false | .t2 .fn _ _ => false
abbrev encP (xs : List Val) : List D := xs.map encV
theorem prH_ne (n : Nat) : prH n ≠ [] := by cases n <;> simp [prH]
theorem pr_ne : ∀ (A : Ty) (h : Nat), flT A = true → pr A h ≠ []
  | .t0 .hole, h, _ => prH_ne h
  | .t0 .int, h, _ => by simp [pr] | .t0 .bool, h, _ => by simp [pr] | .t0 .unit, h, _ => by simp [pr]
  | .t1 .list a, h, f => by have := pr_ne a (h - 1) f; simp [pr, this]
  | .t2 .pair a b, h, f => by
    simp only [flT, Bool.and_eq_true] at f
    have := pr_ne a (h - 1) f.1
    simp [pr, pairP, this]
  | .t1 .cell _, h, f => by cases f
  | .t2 .fn _ _, h, f => by cases f
theorem pairP_len (xs ys : List Val) : (pairP xs ys).length ≤ xs.length + ys.length := by
  simp only [pairP, List.length_append, List.length_map, List.length_tail]; omega
theorem prH_len : ∀ n, n ≤ 4 → (prH n).length ≤ 161
  | 0, _ => by decide +kernel
  | 1, _ => by decide +kernel
  | 2, _ => by decide +kernel
  | 3, _ => by decide +kernel
  | 4, _ => by decide +kernel
theorem pr_len : ∀ (A : Ty) (h : Nat), h ≤ 4 → (pr A h).length ≤ 161 * A.sz
  | .t0 .hole, h, hh => by have := prH_len h hh; simp only [pr, Ty.sz]; omega
  | .t0 .int, h, _ => by simp [pr, Ty.sz] | .t0 .bool, h, _ => by simp [pr, Ty.sz] | .t0 .unit, h, _ => by simp [pr, Ty.sz]
  | .t1 .list a, h, hh => by have := pr_len a (h - 1) (by omega); simp only [pr, Ty.sz, List.length_map]; omega
  | .t2 .pair a b, h, hh => by
    have := pr_len a (h - 1) (by omega)
    have := pr_len b (h - 1) (by omega)
    have := pairP_len (pr a (h - 1)) (pr b (h - 1))
    simp only [pr, Ty.sz]; omega
  | .t1 .cell _, h, _ => by simp [pr]
  | .t2 .fn _ _, h, _ => by simp [pr]
/-! ### typed, and small -/
theorem mem_pairP {xs ys : List Val} {v : Val} (hx : xs ≠ []) (hy : ys ≠ []) (h : v ∈ pairP xs ys) : ∃ x y, v = .pair x y ∧ x ∈ xs ∧ y ∈ ys := by
  cases xs with
  | nil => exact absurd rfl hx
  | cons x0 xr =>
    cases ys with
    | nil => exact absurd rfl hy
    | cons y0 yr =>
      rcases List.mem_append.mp h with h | h
      · obtain ⟨x, h1, rfl⟩ := List.mem_map.mp h
        exact ⟨x, y0, rfl, h1, List.mem_cons_self⟩
      · obtain ⟨y, h1, rfl⟩ := List.mem_map.mp h
        exact ⟨x0, y, rfl, List.mem_cons_self, List.mem_cons_of_mem _ h1⟩
structure Pv (v : Val) (A : Ty) (M : Nat) : Prop where
  t : VT v A
  b : v.isB = false
  s : szV v + 2 ≤ 2 ^ (M + 2)
  d : dpV v ≤ 2 * M + 2
theorem pow4 (M : Nat) : 4 ≤ 2 ^ (M + 2) := by
  have h : (2 : Nat) ^ 2 ≤ 2 ^ (M + 2) := Nat.pow_le_pow_right (by decide) (Nat.le_add_left 2 M)
  exact h
theorem Pv.pair {x y : Val} {a b : Ty} {M : Nat} (hx : Pv x a M) (hy : Pv y b M) : Pv (.pair x y) (.t2 .pair a b) (M + 1) where
  t := ⟨a, b, rfl, hx.t, hy.t⟩
  b := rfl
  s := by have := hx.s; have := hy.s; rw [show M + 1 + 2 = (M + 2) + 1 by omega, Nat.pow_succ]; simp only [szV]; omega
  d := by have := hx.d; have := hy.d; simp only [dpV]; omega
theorem Pv.lst {x : Val} {a : Ty} {M : Nat} (hx : Pv x a M) : Pv (lst1 x) (.t1 .list a) (M + 1) where
  t := ⟨a, rfl, hx.t, trivial⟩
  b := rfl
  s := by have := hx.s; rw [show M + 1 + 2 = (M + 2) + 1 by omega, Nat.pow_succ]; simp only [lst1, szV, szVs]; omega
  d := by have := hx.d; simp only [lst1, dpV, dpVs]; omega
theorem Pv.le {v : Val} {A : Ty} {M N : Nat} (h : Pv v A M) (le : M ≤ N) : Pv v A N := by
  have := Nat.pow_le_pow_right (n := 2) (by decide) (show M + 2 ≤ N + 2 by omega)
  exact ⟨h.t, h.b, Nat.le_trans h.s this, by have := h.d; omega⟩
/-- tagged: a sum of one more -/
theorem prH_v : ∀ n v, v ∈ prH n → Pv v hole n
  | 0, v, h => by
    rw [prH, List.mem_singleton] at h
    subst h
    exact ⟨⟨rfl, rfl, rfl⟩, rfl, by decide, by decide⟩
  | n + 1, v, h => by
    rw [prH] at h
    have p4 := pow4 (n + 1)
    have hb : ∀ (g : Hd7) (x : Val), VT x (wide g) → x.isB = false → szV x = 1 → dpV x = 1 → Pv (.tag g x) hole (n + 1) := fun g x t b s d =>
      ⟨⟨rfl, b, t⟩, rfl, by simp only [szV, s]; omega, by simp only [dpV, d]; omega⟩
    rcases List.mem_append.mp h with h | h
    · rcases List.mem_append.mp h with h | h
      · simp only [List.mem_cons, List.not_mem_nil, or_false] at h
        rcases h with rfl | rfl | rfl
        · exact hb _ _ rfl rfl rfl rfl
        · exact hb _ _ rfl rfl rfl rfl
        · exact hb _ _ rfl rfl rfl rfl
      · obtain ⟨w, hw, rfl⟩ := List.mem_map.mp h
        obtain ⟨x, y, rfl, hx, hy⟩ := mem_pairP (prH_ne n) (prH_ne n) hw
        have px := prH_v n x hx
        have py := prH_v n y hy
        refine ⟨⟨rfl, rfl, hole, hole, rfl, px.t, py.t⟩, rfl, ?_, ?_⟩
        · have := px.s; have := py.s; rw [show n + 1 + 2 = (n + 2) + 1 by omega, Nat.pow_succ]; simp only [szV]; omega
        · have := px.d; have := py.d; simp only [dpV]; omega
    · obtain ⟨w, hw, rfl⟩ := List.mem_map.mp h
      obtain ⟨x, hx, rfl⟩ := List.mem_map.mp hw
      have px := prH_v n x hx
      refine ⟨⟨rfl, rfl, hole, rfl, px.t, trivial⟩, rfl, ?_, ?_⟩
      · have := px.s; rw [show n + 1 + 2 = (n + 2) + 1 by omega, Nat.pow_succ]; simp only [lst1, szV, szVs]; omega
      · have := px.d; simp only [lst1, dpV, dpVs]; omega
theorem pr_v : ∀ (A : Ty) (h M : Nat), flT A = true → h ≤ M → A.dp ≤ M + 1 → ∀ v ∈ pr A h, Pv v A M
  | .t0 .hole, h, M, _, hh, _, v, hv => (prH_v h v hv).le hh
  | .t0 .int, h, M, _, _, _, v, hv => by
    simp only [pr, List.mem_singleton] at hv; subst hv
    have := pow4 M
    exact ⟨rfl, rfl, by simp only [szV]; omega, by simp only [dpV]; omega⟩
  | .t0 .bool, h, M, _, _, _, v, hv => by
    simp only [pr, List.mem_singleton] at hv; subst hv
    have := pow4 M
    exact ⟨rfl, rfl, by simp only [szV]; omega, by simp only [dpV]; omega⟩
  | .t0 .unit, h, M, _, _, _, v, hv => by
    simp only [pr, List.mem_singleton] at hv; subst hv
    have := pow4 M
    exact ⟨rfl, rfl, by simp only [szV]; omega, by simp only [dpV]; omega⟩
  | .t1 .list a, h, M, f, hh, hd', v, hv => by
    simp only [Ty.dp] at hd'
    have := dp1 a
    obtain ⟨M, rfl⟩ : ∃ j, M = j + 1 := ⟨M - 1, by omega⟩
    obtain ⟨x, hx, rfl⟩ := List.mem_map.mp hv
    exact (pr_v a (h - 1) M f (by omega) (by omega) x hx).lst
  | .t2 .pair a b, h, M, f, hh, hd', v, hv => by
    simp only [Ty.dp] at hd'
    simp only [flT, Bool.and_eq_true] at f
    have := dp1 a
    obtain ⟨M, rfl⟩ : ∃ j, M = j + 1 := ⟨M - 1, by omega⟩
    obtain ⟨x, y, rfl, hx, hy⟩ := mem_pairP (pr_ne a _ f.1) (pr_ne b _ f.2) hv
    exact (pr_v a (h - 1) M f.1 (by omega) (by omega) x hx).pair (pr_v b (h - 1) M f.2 (by omega) (by omega) y hy)
  | .t1 .cell _, _, _, f, _, _, _, _ => by cases f
  | .t2 .fn _ _, _, _, f, _, _, _, _ => by cases f
end K11

namespace K11
open PySem L2 EV
theorem fewB {n : Nat} (h : n ≤ 90000) : decide (n ≤ few) = true := decide_eq_true (Nat.le_trans h (by decide))
theorem limB {xs : List D} (h : xs.length ≤ 90000) : lim (some xs) = some (.list xs) := by
  show cond (decide (xs.length ≤ few)) _ none = _
  rw [fewB h]; rfl
theorem cmF (g : D → D) : ∀ xs : List D, compM (fun x => some (some (g x))) xs = some (xs.map g)
  | [] => rfl
  | x :: r => by unfold compM; rw [cmF g r]; rfl
theorem encP_app (xs ys : List Val) : encP (xs ++ ys) = encP xs ++ encP ys := List.map_append
theorem hd_at {ys : List Val} (h : ys ≠ []) : ixD (.list (encP ys)) (.int 0) = some (encV (ys.headD .unit)) := by
  cases ys with
  | nil => exact absurd rfl h
  | cons y r => exact ix_lst (by decide) rfl
theorem sl_tailL (x : D) (xs : List D) : slD (.list (x :: xs)) (some 1) none = some (.list xs) := by
  have h1 : HT.sIx (x :: xs).length 0 (some 1) = min 1 (x :: xs).length := HT.sIx_nat _ _ 1
  show some (PyData.list (((x :: xs).drop (HT.sIx (x :: xs).length 0 (some 1))).take ((x :: xs).length - HT.sIx (x :: xs).length 0 (some 1)))) = _
  rw [h1, List.length_cons, Nat.min_eq_left (by omega), List.drop_succ_cons, List.drop_zero, Nat.add_sub_cancel, List.take_length]
theorem tl_at {ys : List Val} (h : ys ≠ []) : slD (.list (encP ys)) (some 1) none = some (.list (encP ys.tail)) := by
  cases ys with
  | nil => exact absurd rfl h
  | cons y r => exact sl_tailL _ _
theorem encP_pair (xs ys : List Val) : encP (pairP xs ys) = (encP xs).map (fun x => PyData.tuple [.str "pair", x, encV (ys.headD .unit)]) ++ (encP ys.tail).map (fun x => PyData.tuple [.str "pair", encV (xs.headD .unit), x]) := by
  simp only [encP, pairP, List.map_append, List.map_map]
  rfl
theorem max01 (h : Nat) : ((binD .Sub (.int (h : Int)) (PyData.int 1)).bind fun x58 => some ([x58])).bind (fun ys59 => some ((PyData.int 0) :: ys59)) = some [.int 0, .int ((h : Int) - 1)] := rfl
theorem maxh (h : Nat) : bD .max [.int 0, .int ((h : Int) - 1)] = some (.int ((h - 1 : Nat) : Int)) := by
  show some (PyData.int (cond (decide ((0 : Int) < (h : Int) - 1)) ((h : Int) - 1) 0)) = _
  by_cases e : (0 : Int) < (h : Int) - 1
  · rw [decide_eq_true e]; show some (PyData.int ((h : Int) - 1)) = _; rw [show (h : Int) - 1 = ((h - 1 : Nat) : Int) by omega]
  · rw [decide_eq_false e]; show some (PyData.int 0) = _; rw [show h - 1 = 0 by omega]; rfl
abbrev PL : D := dictD [("int", (PyData.tuple [(PyData.str "int"), (PyData.int 0)])), ("bool", (PyData.tuple [(PyData.str "bool"), (PyData.bool true)])), ("unit", (PyData.tuple [(PyData.str "unit")]))]
@[simp] theorem pl_in1 : cmpD .In (.str "list") PL = some false := by kernel_rfl
@[simp] theorem pl_in2 : cmpD .In (.str "pair") PL = some false := by kernel_rfl
theorem ne_hole1 (h : H1) (a : Ty) : decide (Ty.t1 h a = hole) = false := decide_eq_false (by simp)
theorem ne_hole2 (h : H2) (a b : Ty) : decide (Ty.t2 h a b = hole) = false := decide_eq_false (by simp)
theorem pr_list {a : Ty} {h : Nat} {xs : List Val} {k : Nat} (o : Ok (.t1 .list a)) (e : callN T hd.G k "probes_of" [enc a, .int ((h - 1 : Nat) : Int)] = some (.list (encP xs))) (hl : xs.length ≤ 40000) :
    callN T hd.G (k + 1) "probes_of" [enc (.t1 .list a), .int (h : Int)] = some (.list (encP (xs.map lst1))) := by
  have e1 : (encP xs).map (fun x => PyData.tuple [.str "list", x]) = encP (xs.map lst1) := by simp only [encP, List.map_map]; rfl
  have hd1 : hd0 (Ty.t1 .list a) = "list" := rfl
  have n0 : ixD (.list [PyData.list (encP xs)]) (.int 0) = some (.list (encP xs)) := rfl
  rw [r_probes_of, eqH o, ne_hole1]
  simp only [obs1, cf, ix0, hd1, pl_in1, sl_kids, kids, itT, compM, maxh, max01, binD, e, List.length_cons, List.length_nil, Nat.zero_add, few1, ct, eq_str, beq_self_eq_true, n0, itL, cmF, e1]
  rw [limB (by simp [encP]; omega)]; rfl
theorem pr_pair {a b : Ty} {h : Nat} {xs ys : List Val} {k : Nat} (o : Ok (.t2 .pair a b)) (e : callN T hd.G k "probes_of" [enc a, .int ((h - 1 : Nat) : Int)] = some (.list (encP xs))) (e' : callN T hd.G k "probes_of" [enc b, .int ((h - 1 : Nat) : Int)] = some (.list (encP ys))) (hx : xs ≠ []) (hy : ys ≠ [])
    (hl : xs.length ≤ 40000) (hl' : ys.length ≤ 40000) :
    callN T hd.G (k + 1) "probes_of" [enc (.t2 .pair a b), .int (h : Int)] = some (.list (encP (pairP xs ys))) := by
  have hd1 : hd0 (Ty.t2 .pair a b) = "pair" := rfl
  have n0 : ixD (.list [PyData.list (encP xs), PyData.list (encP ys)]) (.int 0) = some (.list (encP xs)) := rfl
  have n1 : ixD (.list [PyData.list (encP xs), PyData.list (encP ys)]) (.int 1) = some (.list (encP ys)) := rfl
  have pl : (("pair" : Str) == ("list" : Str)) = false := by decide +kernel
  have l1 : decide (((encP xs).map (fun x => PyData.tuple [.str "pair", x, encV (ys.headD .unit)])).length ≤ few) = true := fewB (by simp [encP]; omega)
  have l2 : lim (some ((encP ys.tail).map (fun x => PyData.tuple [.str "pair", encV (xs.headD .unit), x]))) = some (.list ((encP ys.tail).map (fun x => PyData.tuple [.str "pair", encV (xs.headD .unit), x]))) := limB (by simp [encP]; omega)
  have l3 : decide (((encP xs).map (fun x => PyData.tuple [.str "pair", x, encV (ys.headD .unit)]) ++ (encP ys.tail).map (fun x => PyData.tuple [.str "pair", encV (xs.headD .unit), x])).length ≤ few) = true := fewB (by simp [encP]; omega)
  rw [r_probes_of, eqH o, ne_hole2]
  simp only [obs1, cf, ix0, hd1, pl_in2, sl_kids, kids, itT, compM, maxh, max01, binD, e, e', List.length_cons, List.length_nil, Nat.zero_add, Nat.reduceAdd, few1, few2, few3, ct, eq_str, pl, n0, n1, itL, hd_at hx, hd_at hy, tl_at hy, cmF, l1, l2, List.append_nil, l3]
  rw [encP_pair]
theorem ev_prH : ∀ (n m : Nat), n ≤ 4 → 2 * n + 1 ≤ m → callN T hd.G m "probes_of" [enc hole, .int (n : Int)] = some (.list (encP (prH n)))
  | 0, m, _, hm => by
    obtain ⟨m, rfl⟩ : ∃ j, m = j + 1 := ⟨m - 1, by omega⟩
    rw [r_probes_of, eqH Ok.h]; kernel_rfl
  | n + 1, m, hn, hm => by
    obtain ⟨m, rfl⟩ : ∃ j, m = j + 2 := ⟨m - 2, by omega⟩
    have i := ev_prH n m (by omega) (by omega)
    have ln := prH_len n (by omega)
    have i1 : callN T hd.G m "probes_of" [enc hole, .int ((n + 1 - 1 : Nat) : Int)] = some (.list (encP (prH n))) := i
    have p := pr_pair (k := m) (h := n + 1) (by show (2 : Nat) ≤ 50; decide) i1 i1 (prH_ne n) (prH_ne n) (by omega) (by omega)
    have q := pr_list (k := m) (h := n + 1) (by show (2 : Nat) ≤ 50; decide) i1 (by omega)
    have p : callN T hd.G (m + 1) "probes_of" [(PyData.tuple [(PyData.str "pair"), (PyData.tuple [(PyData.str "?")]), (PyData.tuple [(PyData.str "?")])]), .int ((n + 1 : Nat) : Int)] = some (.list (encP (pairP (prH n) (prH n)))) := p
    have q : callN T hd.G (m + 1) "probes_of" [(PyData.tuple [(PyData.str "list"), (PyData.tuple [(PyData.str "?")])]), .int ((n + 1 : Nat) : Int)] = some (.list (encP ((prH n).map lst1))) := q
    have lp := pairP_len (prH n) (prH n)
    have z : ((((n + 1 : Nat) : Int)) == (0 : Int)) = false := beq_eq_false_iff_ne.mpr (by omega)
    have b3 : (compM (fun x19 => (((((ixD PL x19).bind fun x20 => some ([x20])).bind fun ys21 => some (x19 :: ys21)).bind fun ys22 => some ((PyData.str "tag") :: ys22)).bind fun ds23 => cond (decide (ds23.length ≤ few)) (some (PyData.tuple ds23)) none).bind fun x24 => some (some x24)) [(PyData.str "int"), (PyData.str "bool"), (PyData.str "unit")]) = some (encP [.tag .int (.int 0), .tag .bool (.bool true), .tag .unit .unit]) := by kernel_rfl
    have m1 : (encP (pairP (prH n) (prH n))).map (fun x => PyData.tuple [.str "tag", .str "pair", x]) = encP ((pairP (prH n) (prH n)).map (Val.tag .pair)) := by simp only [encP, List.map_map]; rfl
    have m2 : (encP ((prH n).map lst1)).map (fun x => PyData.tuple [.str "tag", .str "list", x]) = encP (((prH n).map lst1).map (Val.tag .list)) := by simp only [encP, List.map_map]; rfl
    have l0 : decide ((encP [.tag .int (.int 0), .tag .bool (.bool true), .tag .unit .unit]).length ≤ few) = true := few3
    have l1 : decide ((encP ((pairP (prH n) (prH n)).map (Val.tag .pair))).length ≤ few) = true := fewB (by simp [encP]; omega)
    have l2 : decide ((encP [.tag .int (.int 0), .tag .bool (.bool true), .tag .unit .unit]).length + (encP ((pairP (prH n) (prH n)).map (Val.tag .pair))).length ≤ few) = true := fewB (by simp [encP]; omega)
    have l3 : lim (some (encP (((prH n).map lst1).map (Val.tag .list)))) = some (.list (encP (((prH n).map lst1).map (Val.tag .list)))) := limB (by simp [encP]; omega)
    have l4 : decide (((encP [.tag .int (.int 0), .tag .bool (.bool true), .tag .unit .unit] ++ encP ((pairP (prH n) (prH n)).map (Val.tag .pair))) ++ encP (((prH n).map lst1).map (Val.tag .list))).length ≤ few) = true := fewB (by simp [encP]; omega)
    rw [r_probes_of, eqH Ok.h, decide_eq_true rfl]
    simp only [obs1, ct, cf, eq_in, z, b3, l0, p, itL, cmF, m1, l1, l2, q, m2, l3, List.append_nil, l4]
    rw [prH, encP_app, encP_app]
theorem ev_pr : ∀ (A : Ty) (h m : Nat), flT A = true → Ok A → A.sz ≤ 200 → h ≤ 4 → A.dp + 2 * h + 1 ≤ m → callN T hd.G m "probes_of" [enc A, .int (h : Int)] = some (.list (encP (pr A h)))
  | .t0 .hole, h, m, _, _, _, hh, hm => ev_prH h m hh (by simp only [Ty.dp] at hm; omega)
  | .t0 .int, h, m, _, o, _, _, hm => by
    obtain ⟨m, rfl⟩ : ∃ j, m = j + 1 := ⟨m - 1, by omega⟩
    rw [r_probes_of, eqH o]; kernel_rfl
  | .t0 .bool, h, m, _, o, _, _, hm => by
    obtain ⟨m, rfl⟩ : ∃ j, m = j + 1 := ⟨m - 1, by omega⟩
    rw [r_probes_of, eqH o]; kernel_rfl
  | .t0 .unit, h, m, _, o, _, _, hm => by
    obtain ⟨m, rfl⟩ : ∃ j, m = j + 1 := ⟨m - 1, by omega⟩
    rw [r_probes_of, eqH o]; kernel_rfl
  | .t1 .list a, h, m, f, o, s, hh, hm => by
    obtain ⟨m, rfl⟩ : ∃ j, m = j + 1 := ⟨m - 1, by omega⟩
    simp only [Ty.dp] at hm
    simp only [Ty.sz] at s
    have := pr_len a (h - 1) (by omega)
    exact pr_list o (ev_pr a (h - 1) m f o.a (by omega) (by omega) (by omega)) (by omega)
  | .t2 .pair a b, h, m, f, o, s, hh, hm => by
    obtain ⟨m, rfl⟩ : ∃ j, m = j + 1 := ⟨m - 1, by omega⟩
    simp only [Ty.dp] at hm
    simp only [Ty.sz] at s
    simp only [flT, Bool.and_eq_true] at f
    have := pr_len a (h - 1) (by omega)
    have := pr_len b (h - 1) (by omega)
    exact pr_pair o (ev_pr a (h - 1) m f.1 o.l (by omega) (by omega) (by omega)) (ev_pr b (h - 1) m f.2 o.r (by omega) (by omega) (by omega)) (pr_ne a _ f.1) (pr_ne b _ f.2) (by omega) (by omega)
  | .t1 .cell _, _, _, f, _, _, _, _ => by cases f
  | .t2 .fn _ _, _, _, f, _, _, _, _ => by cases f
abbrev FCn : D := PyData.tuple [(PyData.str "fun"), (PyData.str "cell")]
theorem fcn0 (h : H0) : cmpD .NotIn (.str (n0 h)) FCn = some true := by cases h <;> kernel_rfl
theorem fcn1 : cmpD .NotIn (.str (n1 .list)) FCn = some true := by kernel_rfl
theorem fcn2 : cmpD .NotIn (.str (n2 .pair)) FCn = some true := by kernel_rfl
theorem ev_flat : ∀ (A : Ty) (m : Nat), flT A = true → A.dp ≤ m → callN T hd.G m "is_flat" [enc A] = some (.bool true)
  | .t0 h, m + 1, _, _ => by rw [r_is_flat]; simp [hd0, fcn0, kids, compM]
  | .t1 .list a, m + 1, f, hm => by
    simp only [Ty.dp] at hm
    rw [r_is_flat]; simp [hd0, fcn1, kids, compM, ev_flat a m f (by omega)]
  | .t2 .pair a b, m + 1, f, hm => by
    simp only [Ty.dp] at hm
    simp only [flT, Bool.and_eq_true] at f
    rw [r_is_flat]; simp [hd0, fcn2, kids, compM, ev_flat a m f.1 (by omega), ev_flat b m f.2 (by omega)]
  | .t1 .cell _, _, f, _ => by cases f
  | .t2 .fn _ _, _, f, _ => by cases f
  | .t0 _, 0, _, h => by cases h
  | .t1 .list _, 0, _, h => by cases h
  | .t2 .pair _ _, 0, _, h => by cases h
theorem ev_probes {A : Ty} {h : Nat} (f : flT A = true) (hA : A.dp ≤ 4) (h1 : 1 ≤ h) (h4 : h ≤ 4) {k : Nat} (hk : 60 ≤ k) : callN T hd.G k "probes" [enc A, .int (h : Int)] = some (.list (encP (pr A h))) := by
  obtain ⟨k, rfl⟩ : ∃ j, k = j + 1 := ⟨k - 1, by omega⟩
  have fa := fit4 hA
  have e1 : decide ((1 : Int) ≤ (h : Int)) = true := decide_eq_true (by omega)
  have e4 : decide ((h : Int) ≤ 4) = true := decide_eq_true (by omega)
  rw [r_probes, ev_check fa (by omega), ev_flat A k f (by omega), ev_pr A h k f (by show _ ≤ 50; omega) (by have := fa.sz; omega) h4 (by omega)]
  simp only [obs1, tru_b, Option.map_some, Bool.not_true, cf, le_i, e1, ct, e4]
end K11

namespace K11
open PySem L2 EV
def fl7 : Hd7 → Bool | .fn => false | .cell => false | _ => true
def flC : Co → Bool
  | .any => true | .base _ => true | .fail _ _ _ => true | .two _ c d => flC c && flC d | .lst c => flC c | .frm h _ c => fl7 h && flC c | .to c _ => flC c
theorem flT_wide {h : Hd7} (f : fl7 h = true) : flT (wide h) = true := by cases h <;> first | rfl | cases f
/-- what gives a blame fails -/
theorem mi_B {c : Co} {A B : Ty} {v : Val} (w : W c A B) (m : isMi c = true) (nb : v.isB = false) {l : Lab} (e : seen c v = .blame l) : ∃ h h', c = .fail h l h' := by
  cases c with
  | any => cases m
  | frm _ _ _ => cases m
  | base b => have := pl_nb (c := .base b) rfl nb; rw [e] at this; cases this
  | two g x y => have := pl_nb (c := .two g x y) rfl nb; rw [e] at this; cases this
  | lst x => have := pl_nb (c := .lst x) rfl nb; rw [e] at this; cases this
  | to c h =>
    have q := pl_nb w.2.1 nb
    have : seen (.to c h) v = .tag h (seen c v) := by
      show (if (seen c v).isB = true then _ else _) = _
      rw [q, if_neg (by decide)]
    rw [this] at e; cases e
  | fail h l' h' =>
    have : seen (.fail h l' h') v = .blame l' := by
      show (if v.isB = true then _ else _) = _
      rw [nb, if_neg (by decide)]
    rw [this] at e; cases e; exact ⟨h, h', rfl⟩
theorem seen_fail {h h' : Hd7} {l : Lab} {v : Val} (nb : v.isB = false) : seen (.fail h l h') v = .blame l := by
  show (if v.isB = true then _ else _) = _
  rw [nb, if_neg (by decide)]
theorem seen_to {c : Co} {h : Hd7} {v : Val} (p : isPl c = true) (nb : v.isB = false) : seen (.to c h) v = .tag h (seen c v) := by
  show (if (seen c v).isB = true then _ else _) = _
  rw [pl_nb p nb, if_neg (by decide)]
theorem seen_same {h : Hd7} {l : Lab} {c : Co} {v : Val} : seen (.frm h l c) (.tag h v) = seen c v := by
  show (if h = h then _ else _) = _
  rw [if_pos rfl]
theorem seen_other {h h' : Hd7} {l : Lab} {c : Co} {v : Val} (n : h ≠ h') : seen (.frm h l c) (.tag h' v) = .blame l := by
  show (if h = h' then _ else _) = _
  rw [if_neg n]
theorem prH_other (g g' : Hd7) (n : Nat) : ∃ h v, Val.tag h v ∈ prH (n + 1) ∧ g ≠ h ∧ g' ≠ h := by
  have h1 : Val.tag .int (.int 0) ∈ prH (n + 1) := by simp [prH]
  have h2 : Val.tag .bool (.bool true) ∈ prH (n + 1) := by simp [prH]
  have h3 : Val.tag .unit .unit ∈ prH (n + 1) := by simp [prH]
  cases g <;> cases g' <;> first | exact ⟨_, _, h1, by decide, by decide⟩ | exact ⟨_, _, h2, by decide, by decide⟩ | exact ⟨_, _, h3, by decide, by decide⟩
theorem prH_wide {g : Hd7} (f : fl7 g = true) (n : Nat) {v : Val} (h : v ∈ pr (wide g) (n + 1)) : Val.tag g v ∈ prH (n + 1) := by
  cases g with
  | fn => cases f
  | cell => cases f
  | int => simp only [wide, pr, List.mem_singleton] at h; subst h; simp [prH]
  | bool => simp only [wide, pr, List.mem_singleton] at h; subst h; simp [prH]
  | unit => simp only [wide, pr, List.mem_singleton] at h; subst h; simp [prH]
  | pair =>
    have h : v ∈ pairP (prH n) (prH n) := h
    rw [prH]
    exact List.mem_append_left _ (List.mem_append_right _ (List.mem_map.mpr ⟨v, h, rfl⟩))
  | list =>
    have h : v ∈ (prH n).map lst1 := h
    rw [prH]
    exact List.mem_append_right _ (List.mem_map.mpr ⟨v, h, rfl⟩)
theorem ex_pr {A : Ty} (f : flT A = true) (h : Nat) : ∃ v, v ∈ pr A h ∧ v.isB = false := by
  have n := pr_ne A h f
  cases e : pr A h with
  | nil => exact absurd e n
  | cons v r =>
    have hv : v ∈ pr A h := by rw [e]; exact List.mem_cons_self
    exact ⟨v, List.mem_cons_self, (pr_v A h (max h A.dp) f (by omega) (by omega) v hv).b⟩
theorem nb_pr {A : Ty} (f : flT A = true) {h : Nat} {v : Val} (hv : v ∈ pr A h) : v.isB = false := (pr_v A h (max h A.dp) f (by omega) (by omega) v hv).b
/-- all probes tell them apart -/
def Ap (c d : Co) (A : Ty) (h : Nat) : Prop := ∀ v ∈ pr A h, seen c v = seen d v
theorem Ap.symm {c d : Co} {A : Ty} {h : Nat} (a : Ap c d A h) : Ap d c A h := fun v hv => (a v hv).symm
theorem lst_inj {c d : Co} {v : Val} (h : seen (.lst c) (lst1 v) = seen (.lst d) (lst1 v)) : seen c v = seen d v := by
  have h : Val.lst (.cons (seen c v) .nil) = Val.lst (.cons (seen d v) .nil) := h
  injection h with h
  injection h
theorem frm_any {g : Hd7} {l : Lab} {c : Co} {n : Nat} (a : Ap .any (.frm g l c) hole (n + 1)) : False := by
  obtain ⟨h, v, hv, n1, _⟩ := prH_other g g n
  have := a _ hv
  rw [seen_other n1] at this
  cases this
theorem frm_frm {g g' : Hd7} {l l' : Lab} {c c' : Co} {n : Nat} {B : Ty} (f : fl7 g = true) (m : isMi c = true) (w : W c (wide g) B) (nd : (lbs (.frm g l c)).Nodup) (a : Ap (.frm g l c) (.frm g' l' c') hole (n + 1)) : l = l' ∧ g = g' := by
  obtain ⟨h, v, hv, n1, n2⟩ := prH_other g g' n
  have e := a _ hv
  rw [seen_other n1, seen_other n2] at e
  injection e with e
  refine ⟨e, ?_⟩
  by_cases hg : g = g'
  · exact hg
  · exfalso
    obtain ⟨x, hx, nb⟩ := ex_pr (flT_wide f) (n + 1)
    have := a _ (prH_wide f n hx)
    rw [seen_same, seen_other (fun z => hg z.symm)] at this
    obtain ⟨p, q, rfl⟩ := mi_B w m nb this
    rw [← e] at nd
    simp [lbs] at nd
theorem complete : ∀ (c d : Co) (A B : Ty) (h : Nat), W c A B → W d A B → flT A = true → flC c = true → flC d = true → (lbs c).Nodup → (lbs d).Nodup → hgt c ≤ h → hgt d ≤ h → Ap c d A h → al c d = true := by
  intro c
  induction c with
  | any =>
    intro d A B h w w' fA fc fd' nc nd hc hd' a
    obtain ⟨n, rfl⟩ : ∃ j, h = j + 1 := ⟨h - 1, by have := hc; simp only [hgt] at this; omega⟩
    cases d with
    | any => rfl
    | frm g l d => rw [w.1] at a; exact (frm_any a).elim
    | _ => exact absurd w.1 (mi_nh (by rfl) w')
  | frm g l c ih =>
    intro d A B h w w' fA fc fd' nc nd hc hd' a
    have := hgt1 c
    obtain ⟨n, rfl⟩ : ∃ j, h = j + 1 := ⟨h - 1, by have := hc; simp only [hgt] at this; omega⟩
    obtain ⟨hA, m, w⟩ := w
    subst hA
    simp only [flC, Bool.and_eq_true] at fc
    cases d with
    | any => exact (frm_any a.symm).elim
    | frm g' l' d =>
      obtain ⟨e1, e2⟩ := frm_frm fc.1 m w nc a
      subst e1 e2
      simp only [flC, Bool.and_eq_true] at fd'
      have := ih d (wide g) B (n + 1) w w'.2.2 (flT_wide fc.1) fc.2 fd'.2 (List.nodup_cons.mp nc).2 (List.nodup_cons.mp nd).2 hc hd' (fun v hv => by
        have := a _ (prH_wide fc.1 n hv)
        rw [seen_same, seen_same] at this
        exact this)
      simp [al, this]
    | _ => exact absurd rfl (mi_nh (by rfl) w')
  | base b =>
    intro d A B h w w' fA fc fd' nc nd hc hd' a
    obtain ⟨v, hv, nb⟩ := ex_pr fA h
    have e := a v hv
    have nB := (pl_nh (c := .base b) rfl w).2
    have nA := (pl_nh (c := .base b) rfl w).1
    cases d with
    | any => exact absurd w'.1 nA
    | frm _ _ _ => exact absurd w'.1 nA
    | to _ _ => exact absurd w'.1 nB
    | fail h1 l h2 => rw [seen_fail nb] at e; have e : v = .blame l := e; rw [e] at nb; cases nb
    | base b' =>
      have := bt_inj (w.1.symm.trans w'.1)
      simp [al, this]
    | lst d => obtain ⟨_, _, h1, _⟩ := w'; rw [w.1] at h1; cases b <;> cases h1
    | two g d d1 =>
      cases g with
      | cell => obtain ⟨_, _, h1, _⟩ := w'; rw [w.1] at h1; cases b <;> cases h1
      | fn => obtain ⟨_, _, _, _, h1, _⟩ := w'; rw [w.1] at h1; cases b <;> cases h1
      | pair => obtain ⟨_, _, _, _, h1, _⟩ := w'; rw [w.1] at h1; cases b <;> cases h1
  | lst c ih =>
    intro d A B h w w' fA fc fd' nc nd hc hd' a
    have nB := (pl_nh (c := .lst c) rfl w).2
    have nA := (pl_nh (c := .lst c) rfl w).1
    obtain ⟨v, hv, nb⟩ := ex_pr fA h
    have e := a v hv
    have q := pl_nb (c := .lst c) rfl nb
    obtain ⟨a1, b1, hA, hB, w⟩ := w
    subst hA hB
    cases d with
    | any => exact absurd w'.1 nA
    | frm _ _ _ => exact absurd w'.1 nA
    | to _ _ => exact absurd w'.1 nB
    | fail h1 l h2 => rw [seen_fail nb] at e; rw [e] at q; cases q
    | base b' => obtain ⟨h1, _⟩ := w'; cases b' <;> cases h1
    | two g d d1 =>
      cases g with
      | cell => obtain ⟨_, _, h1, _⟩ := w'; cases h1
      | fn => obtain ⟨_, _, _, _, h1, _⟩ := w'; cases h1
      | pair => obtain ⟨_, _, _, _, h1, _⟩ := w'; cases h1
    | lst d =>
      obtain ⟨a2, b2, h1, h2, w'⟩ := w'
      cases h1
      cases h2
      simp only [hgt] at hc hd'
      exact ih d a1 b1 (h - 1) w w' fA fc fd' nc nd (by omega) (by omega) fun x hx => lst_inj (a (lst1 x) (List.mem_map.mpr ⟨x, hx, rfl⟩))
  | two g c c1 ih ih1 =>
    intro d A B h w w' fA fc fd' nc nd hc hd' a
    have nB := (pl_nh (c := .two g c c1) rfl w).2
    have nA := (pl_nh (c := .two g c c1) rfl w).1
    obtain ⟨v, hv, nb⟩ := ex_pr fA h
    have e := a v hv
    have q := pl_nb (c := .two g c c1) rfl nb
    cases g with
    | fn => obtain ⟨_, _, _, _, h1, _⟩ := w; rw [h1] at fA; cases fA
    | cell => obtain ⟨_, _, h1, _⟩ := w; rw [h1] at fA; cases fA
    | pair =>
      obtain ⟨a1, a1', b1, b1', hA, hB, w, w1⟩ := w
      subst hA hB
      cases d with
      | any => exact absurd w'.1 nA
      | frm _ _ _ => exact absurd w'.1 nA
      | to _ _ => exact absurd w'.1 nB
      | fail h1 l h2 => rw [seen_fail nb] at e; rw [e] at q; cases q
      | base b' => obtain ⟨h1, _⟩ := w'; cases b' <;> cases h1
      | lst d => obtain ⟨_, _, h1, _⟩ := w'; cases h1
      | two g' d d1 =>
        cases g' with
        | cell => obtain ⟨_, _, h1, _⟩ := w'; cases h1
        | fn => obtain ⟨_, _, _, _, h1, _⟩ := w'; cases h1
        | pair =>
          obtain ⟨a2, a2', b2, b2', h1, h2, w', w1'⟩ := w'
          cases h1
          cases h2
          simp only [hgt] at hc hd'
          simp only [flT, Bool.and_eq_true] at fA
          simp only [flC, Bool.and_eq_true] at fc fd'
          have nc' := List.nodup_append.mp nc
          have nd' := List.nodup_append.mp nd
          have pne := pr_ne a1 (h - 1) fA.1
          have pne' := pr_ne a1' (h - 1) fA.2
          have k1 : Ap c d a1 (h - 1) := fun x hx => by
            have : Val.pair x ((pr a1' (h - 1)).headD .unit) ∈ pairP (pr a1 (h - 1)) (pr a1' (h - 1)) := List.mem_append_left _ (List.mem_map.mpr ⟨x, hx, rfl⟩)
            have := a _ this
            have : Val.pair (seen c x) _ = Val.pair (seen d x) _ := this
            injection this
          have k2 : Ap c1 d1 a1' (h - 1) := fun y hy => by
            have hy' : (∃ x, Val.pair x y ∈ pairP (pr a1 (h - 1)) (pr a1' (h - 1))) := by
              cases e1 : pr a1' (h - 1) with
              | nil => exact absurd e1 pne'
              | cons y0 yr =>
                cases e2 : pr a1 (h - 1) with
                | nil => exact absurd e2 pne
                | cons x0 xr =>
                  rw [e1] at hy
                  rcases List.mem_cons.mp hy with rfl | hy
                  · exact ⟨x0, List.mem_append_left _ (List.mem_map.mpr ⟨x0, List.mem_cons_self, rfl⟩)⟩
                  · exact ⟨x0, List.mem_append_right _ (List.mem_map.mpr ⟨y, hy, rfl⟩)⟩
            obtain ⟨x, hx⟩ := hy'
            have := a _ hx
            have : Val.pair _ (seen c1 y) = Val.pair _ (seen d1 y) := this
            injection this
          have r1 := ih d a1 b1 (h - 1) w w' fA.1 fc.1 fd'.1 nc'.1 nd'.1 (by omega) (by omega) k1
          have r2 := ih1 d1 a1' b1' (h - 1) w1 w1' fA.2 fc.2 fd'.2 nc'.2.1 nd'.2.1 (by omega) (by omega) k2
          simp [al, r1, r2]
  | to c g ih =>
    intro d A B h w w' fA fc fd' nc nd hc hd' a
    obtain ⟨hB, p, w⟩ := w
    subst hB
    have nA := (pl_nh p w).1
    obtain ⟨v, hv, nb⟩ := ex_pr fA h
    have e := a v hv
    rw [seen_to p nb] at e
    cases d with
    | any => exact absurd w'.1 nA
    | frm _ _ _ => exact absurd w'.1 nA
    | fail h1 l h2 => rw [seen_fail nb] at e; cases e
    | to d g' =>
      obtain ⟨_, p', w'⟩ := w'
      have eg := to_hd p w p' w'
      subst eg
      have := ih d A (wide g) h w w' fA fc fd' nc nd hc hd' fun x hx => by
        have nbx := nb_pr fA hx
        have e := a x hx
        rw [seen_to p nbx, seen_to p' nbx] at e
        injection e
      simp [al, this]
    | _ => exact absurd rfl (pl_nh (by rfl) w').2
  | fail g l g1 =>
    intro d A B h w w' fA fc fd' nc nd hc hd' a
    have nA : A ≠ hole := fun e => by have := w.1; rw [e] at this; cases this
    obtain ⟨v, hv, nb⟩ := ex_pr fA h
    have e := a v hv
    rw [seen_fail nb] at e
    cases d with
    | any => exact absurd w'.1 nA
    | frm _ _ _ => exact absurd w'.1 nA
    | to d g' => rw [seen_to w'.2.1 nb] at e; cases e
    | fail h1 l1 h2 =>
      rw [seen_fail nb] at e
      injection e with e
      have := w.1.symm.trans w'.1
      have := Option.some.inj this
      simp [al, this, e]
    | base b => have q := pl_nb (c := .base b) rfl nb; rw [← e] at q; cases q
    | lst d => have q := pl_nb (c := .lst d) rfl nb; rw [← e] at q; cases q
    | two g' d d1 => have q := pl_nb (c := .two g' d d1) rfl nb; rw [← e] at q; cases q
/-- alike ones do the same -/
theorem al_seen : ∀ (c d : Co), al c d = true → seen c = seen d := by
  intro c
  induction c with
  | any => intro d h; cases d <;> first | rfl | cases h
  | base b => intro d h; cases d <;> first | rfl | cases h
  | fail g l g1 =>
    intro d h
    cases d with
    | fail g' l' g1' => simp only [al, Bool.and_eq_true, decide_eq_true_eq] at h; rw [h.2]; funext v; rfl
    | _ => cases h
  | to c g ih =>
    intro d h
    cases d with
    | to d g' => simp only [al, Bool.and_eq_true, decide_eq_true_eq] at h; funext v; show (if (seen c v).isB = true then _ else _) = (if (seen d v).isB = true then _ else _); rw [ih d h.2, h.1]
    | _ => cases h
  | frm g l c ih =>
    intro d h
    cases d with
    | frm g' l' d =>
      simp only [al, Bool.and_eq_true, decide_eq_true_eq] at h
      obtain ⟨rfl, rfl, h⟩ := h
      funext v
      cases v with
      | tag g2 x => show (if g = g2 then seen c x else _) = (if g = g2 then seen d x else _); rw [ih d h]
      | _ => rfl
    | _ => cases h
  | lst c ih =>
    intro d h
    cases d with
    | lst d =>
      funext v
      cases v with
      | lst vs => show Val.lst (vs.map (seen c)) = Val.lst (vs.map (seen d)); rw [ih d h]
      | _ => rfl
    | _ => cases h
  | two g c c1 ih ih1 =>
    intro d h
    cases d with
    | two g' d d1 =>
      simp only [al, Bool.and_eq_true, decide_eq_true_eq] at h
      funext v
      cases v with
      | pair x y => show Val.pair (seen c x) (seen c1 y) = Val.pair (seen d x) (seen d1 y); rw [ih d h.2.1, ih1 d1 h.2.2]
      | _ => rfl
    | _ => cases h
end K11

namespace K11
open PySem L2 EV
theorem r_lv (k : Nat) (w_0 w_1 w_2 w_3 w_4 : D) (κ : Fl → Option D) : exsK ⟨f__law_value.N, hd.G, callN T hd.G k⟩ 56 [Sl.sh w_0, Sl.sh w_1, Sl.sh w_2, Sl.sh w_3, Sl.sh w_4, Sl.un, Sl.un, Sl.un] ((ifA (stAt f__law_value.body 0)).drop 2) κ =
    ((((ixD w_4 (PyData.int 0)).bind fun x3 => some ([x3])).bind fun ds4 => cond (decide (ds4.length ≤ few)) (some (PyData.tuple ds4)) none).bind fun x5 => (((bD .len [w_4]).bind fun x6 => binD .Sub x6 (PyData.int 1)).bind fun x7 => binD .Mult (PyData.tuple [(PyData.tuple [(PyData.str "?")])]) x7).bind fun x8 => binD .Add x5 x8).bind fun x9 => ((((ixD w_4 (PyData.int 0)).bind fun x20 => (((((binD .Add w_1 (PyData.int 2)).bind fun x15 => ((rd false (Sl.share (owS x9))).bind fun x13 => ((binD .Sub w_3 (PyData.int 1)).bind fun x12 => some ([x12])).bind fun ys14 => some (x13 :: ys14)).bind fun ys16 => some (x15 :: ys16)).bind fun ys17 => some (w_0 :: ys17)).bind fun ds18 => callN T hd.G k "_law_value" ds18).bind fun x19 => some ([x19])).bind fun ys21 => some (x20 :: ys21)).bind fun ys22 => some ((PyData.str "tag") :: ys22)).bind fun ds23 => cond (decide (ds23.length ≤ few)) (some (PyData.tuple ds23)) none).bind fun x24 => κ (Fl.ret x24) := by kernel_rfl
def HE : Bool → List D
  | true => [.str "pair", .str "list", .str "pair"]
  | false => [.str "pair", .str "list"]
theorem he4 (c : Bool) : (HE c).length ≤ 3 := by match c with | true => decide | false => decide
theorem he1 (c : Bool) : binD .Mult (.list (HE c)) (.int 1) = some (.list (HE c)) := by match c with | true => kernel_rfl | false => kernel_rfl
theorem he0 (c : Bool) : binD .Mult (.list (HE c)) (.int 0) = some (.list []) := by match c with | true => kernel_rfl | false => kernel_rfl
theorem b4 (c : Bool) : binD .Add (.list B4) (.list (HE c)) = some (.list (B4 ++ HE c)) := by match c with | true => kernel_rfl | false => kernel_rfl
def flq : Hq → Bool | .z _ => true | .o h => decide (h = .list) | .t h => decide (h = .pair)
theorem pick1 (c : Bool) (r : Int) (h0 : 0 ≤ r) (h1 : r < 4 + (HE c).length) : ∃ q : Hq, ixD (.list (B4 ++ HE c)) (.int r) = some (.str (nq q)) ∧ flq q = true := by
  obtain ⟨n, rfl⟩ := Int.eq_ofNat_of_zero_le h0
  have := he4 c
  match c, n, h1 with
  | c, 0, _ => exact ⟨.z .hole, ix_lst (by decide) rfl, rfl⟩
  | c, 1, _ => exact ⟨.z .int, ix_lst (by decide) rfl, rfl⟩
  | c, 2, _ => exact ⟨.z .bool, ix_lst (by decide) rfl, rfl⟩
  | c, 3, _ => exact ⟨.z .unit, ix_lst (by decide) rfl, rfl⟩
  | true, 4, _ => exact ⟨.t .pair, rfl, rfl⟩
  | true, 5, _ => exact ⟨.o .list, rfl, rfl⟩
  | true, 6, _ => exact ⟨.t .pair, rfl, rfl⟩
  | false, 4, _ => exact ⟨.t .pair, rfl, rfl⟩
  | false, 5, _ => exact ⟨.o .list, rfl, rfl⟩
  | false, n + 6, h => exact absurd h (by show ¬ ((n + 6 : Nat) : Int) < 4 + ((2 : Nat) : Int); omega)
  | c, n + 7, h => exact absurd h (by omega)
theorem ev_type {ds : List Int} (hd0 : Dr ds) (c : Bool) : ∀ (n : Nat) (deep i : Int) (m : Nat), deep ≤ n → 0 ≤ i → n + 2 ≤ m → ∃ A, callN T hd.G m "_law_type" [.list (ds.map .int), .int i, .int deep, .list (HE c)] = some (enc A) ∧ A.dp ≤ n + 1 ∧ flT A = true := by
  have low : ∀ (n : Nat) (deep i : Int) (m : Nat), deep ≤ 0 → 0 ≤ i → n + 2 ≤ m → ∃ A, callN T hd.G m "_law_type" [.list (ds.map .int), .int i, .int deep, .list (HE c)] = some (enc A) ∧ A.dp ≤ n + 1 ∧ flT A = true := by
    intro n deep i m hd' hi hm
    obtain ⟨m, rfl⟩ : ∃ j, m = j + 2 := ⟨m - 2, by omega⟩
    obtain ⟨r, er, r0, r1⟩ := ev_mix hd0 m i 4 hi (by decide)
    obtain ⟨h, eh⟩ := pick0 r r0 r1
    refine ⟨.t0 h, ?_, by simp only [Ty.dp]; omega, rfl⟩
    have z : decide ((0 : Int) < deep) = false := decide_eq_false (by omega)
    rw [r__law_type]
    simp only [gt_i, z, Option.map_some, obs1, int_b, cond_false, he0, b40, len_l, mulR _ 0 rfl, add_i, Int.mul_zero, Int.add_zero, er, eh, gp0, rg0, compM, lim0, tuL, addT0]
    rfl
  intro n
  induction n with
  | zero => intro deep i m hd' hi hm; exact low 0 deep i m (by omega) hi hm
  | succ n ih =>
    intro deep i m hd' hi hm
    by_cases hz : deep ≤ 0
    · exact low (n + 1) deep i m hz hi hm
    · obtain ⟨m, rfl⟩ : ∃ j, m = j + 2 := ⟨m - 2, by omega⟩
      obtain ⟨r, er, r0, r1⟩ := ev_mix hd0 m i (4 + (HE c).length) hi (by omega)
      obtain ⟨q, eq, fq⟩ := pick1 c r r0 r1
      have z : decide ((0 : Int) < deep) = true := decide_eq_true (by omega)
      obtain ⟨a, ea, da, fa⟩ := ih (deep - 1) (3 * i + 1 + 0) (m + 1) (by omega) (by omega) (by omega)
      obtain ⟨b, eb, db, fb⟩ := ih (deep - 1) (3 * i + 1 + 1) (m + 1) (by omega) (by omega) (by omega)
      cases q with
      | z h =>
        refine ⟨.t0 h, ?_, by simp only [Ty.dp]; omega, rfl⟩
        rw [r__law_type]
        simp only [nq] at eq
        simp only [gt_i, z, Option.map_some, obs1, int_b, cond_true, he1, b4, len_l, mulR _ 1 rfl, add_i, Int.mul_one, er, eq, gp0, rg0, compM, lim0, tuL, addT0]
        rfl
      | o h =>
        have : h = .list := by simpa [flq] using fq
        subst this
        refine ⟨.t1 .list a, ?_, by simp only [Ty.dp]; omega, fa⟩
        rw [r__law_type]
        simp only [nq] at eq
        simp only [gt_i, z, Option.map_some, obs1, int_b, cond_true, he1, b4, len_l, mulR _ 1 rfl, mulL 3 _ rfl, add_i, sub_i, Int.mul_one, er, eq, gp1, rg1, compM, ea, lim1, tuL, addT1]
        rfl
      | t h =>
        have : h = .pair := by simpa [flq] using fq
        subst this
        refine ⟨.t2 .pair a b, ?_, by simp only [Ty.dp]; omega, by simp [flT, fa, fb]⟩
        rw [r__law_type]
        simp only [nq] at eq
        simp only [gt_i, z, Option.map_some, obs1, int_b, cond_true, he1, b4, len_l, mulR _ 1 rfl, mulL 3 _ rfl, add_i, sub_i, Int.mul_one, er, eq, gp2, rg2, compM, ea, eb, lim2, tuL, addT2]
        rfl
theorem ixH0 (x : D) : ixD (.list [.tuple [.str "?"], x]) (.int 0) = some (enc hole) := rfl
theorem ixH1 (x y : D) : ixD (.list [x, y]) (.int 1) = some y := rfl
theorem ev_next {ds : List Int} (hd0 : Dr ds) (c : Bool) : ∀ (A : Ty) (n : Nat) (deep i : Int) (m : Nat), flT A = true → deep ≤ n → A.dp ≤ n + 1 → n ≤ 3 → 0 ≤ i → n + 3 ≤ m → ∃ B, callN T hd.G m "_law_next" [.list (ds.map .int), .int i, enc A, .int deep, .list (HE c)] = some (enc B) ∧ B.dp ≤ n + 1 ∧ Cs A B ∧ flT B = true := by
  intro A
  induction A with
  | t0 h =>
    intro n deep i m fA hdp hA hn hi hm
    obtain ⟨m, rfl⟩ : ∃ j, m = j + 2 := ⟨m - 2, by omega⟩
    obtain ⟨X, eX, dX, fX⟩ := ev_type hd0 c n deep (i + 1) (m + 1) hdp (by omega) (by omega)
    obtain ⟨r, er, r0, r1⟩ := ev_mix hd0 m i 4 hi (by decide)
    have ok : Ok (.t0 h) := by show (1 : Nat) ≤ 50; decide
    rw [r__law_next, eqH ok]
    by_cases e : Ty.t0 h = hole
    · rw [decide_eq_true e]
      refine ⟨X, ?_, dX, by rw [e]; exact .hl X, fX⟩
      simp only [obs1, ct, add_i, eX, Option.map_some, int_b, cond_true, List.length_cons, List.length_nil, Nat.zero_add, Nat.reduceAdd, few2, ixH1]
    · rw [decide_eq_false e]
      by_cases z : (r == (0 : Int)) = true
      · refine ⟨hole, ?_, by simp only [Ty.dp]; omega, .hr _, rfl⟩
        simp only [obs1, ct, cf, er, eq_i, z, add_i, eX, Option.map_some, int_b, cond_false, List.length_cons, List.length_nil, Nat.zero_add, Nat.reduceAdd, few2, ixH0]
      · have z : (r == (0 : Int)) = false := by simpa using z
        refine ⟨.t0 h, ?_, hA, .s0 h, rfl⟩
        simp only [obs1, cf, er, eq_i, z, ix0, len_enc, kids, List.length_nil, List.length_cons, Nat.zero_add, few1, ct, sub_i]
        have e0 : ((Nat.succ 0 : Nat) : Int) - 1 = 0 := rfl
        simp only [e0, rg0, obs1, compM, lim0, tuL, addT0]
        rfl
  | t1 h a iha =>
    intro n deep i m fA hdp hA hn hi hm
    obtain ⟨m, rfl⟩ : ∃ j, m = j + 2 := ⟨m - 2, by omega⟩
    have ok : Ok (.t1 h a) := by show (_ : Nat) ≤ 50; omega
    simp only [Ty.dp] at hA
    have := dp1 a
    obtain ⟨n, rfl⟩ : ∃ j, n = j + 1 := ⟨n - 1, by omega⟩
    have fa : flT a = true := by cases h <;> first | exact fA | cases fA
    have hh : h = .list := by cases h <;> first | rfl | cases fA
    subst hh
    obtain ⟨X, eX, dX, fX⟩ := ev_type hd0 c (n + 1) deep (i + 1) (m + 1) hdp (by omega) (by omega)
    obtain ⟨r, er, r0, r1⟩ := ev_mix hd0 m i 4 hi (by decide)
    obtain ⟨b, eb, db, cb, fb⟩ := iha n (deep - 1) (3 * i + 2 + 0) (m + 1) fa (by omega) (by omega) (by omega) (by omega) (by omega)
    rw [r__law_next, eqH ok, ne_hole1]
    by_cases z : (r == (0 : Int)) = true
    · refine ⟨hole, ?_, by simp only [Ty.dp]; omega, .hr _, rfl⟩
      simp only [obs1, ct, cf, er, eq_i, z, add_i, eX, Option.map_some, int_b, cond_false, List.length_cons, List.length_nil, Nat.zero_add, Nat.reduceAdd, few2, ixH0]
    · have z : (r == (0 : Int)) = false := by simpa using z
      refine ⟨.t1 .list b, ?_, by simp only [Ty.dp]; omega, .s1 .list cb, fb⟩
      simp only [obs1, cf, er, eq_i, z, ix0, len_enc, kids, List.length_nil, List.length_cons, Nat.zero_add, few1, ct, sub_i]
      have e0 : ((Nat.succ (0 + 1) : Nat) : Int) - 1 = 1 := rfl
      have e0' : ((Nat.succ 1 : Nat) : Int) - 1 = 1 := rfl
      have e2 : (1 : Int) + 0 = 1 := rfl
      simp only [e0, e0', rg1, obs1, compM, mulL 3 _ rfl, add_i, sub_i, e2, ix11, eb, lim1, tuL, addT1]
      rfl
  | t2 h a a' iha iha' =>
    intro n deep i m fA hdp hA hn hi hm
    obtain ⟨m, rfl⟩ : ∃ j, m = j + 2 := ⟨m - 2, by omega⟩
    have ok : Ok (.t2 h a a') := by show (_ : Nat) ≤ 50; omega
    simp only [Ty.dp] at hA
    have := dp1 a
    obtain ⟨n, rfl⟩ : ∃ j, n = j + 1 := ⟨n - 1, by omega⟩
    have hh : h = .pair := by cases h <;> first | rfl | cases fA
    subst hh
    simp only [flT, Bool.and_eq_true] at fA
    obtain ⟨X, eX, dX, fX⟩ := ev_type hd0 c (n + 1) deep (i + 1) (m + 1) hdp (by omega) (by omega)
    obtain ⟨r, er, r0, r1⟩ := ev_mix hd0 m i 4 hi (by decide)
    obtain ⟨b, eb, db, cb, fb⟩ := iha n (deep - 1) (3 * i + 2 + 0) (m + 1) fA.1 (by omega) (by omega) (by omega) (by omega) (by omega)
    obtain ⟨b', eb', db', cb', fb'⟩ := iha' n (deep - 1) (3 * i + 2 + 1) (m + 1) fA.2 (by omega) (by omega) (by omega) (by omega) (by omega)
    rw [r__law_next, eqH ok, ne_hole2]
    by_cases z : (r == (0 : Int)) = true
    · refine ⟨hole, ?_, by simp only [Ty.dp]; omega, .hr _, rfl⟩
      simp only [obs1, ct, cf, er, eq_i, z, add_i, eX, Option.map_some, int_b, cond_false, List.length_cons, List.length_nil, Nat.zero_add, Nat.reduceAdd, few2, ixH0]
    · have z : (r == (0 : Int)) = false := by simpa using z
      refine ⟨.t2 .pair b b', ?_, by simp only [Ty.dp]; omega, .s2 .pair cb cb', by simp [flT, fb, fb']⟩
      simp only [obs1, cf, er, eq_i, z, ix0, len_enc, kids, List.length_nil, List.length_cons, Nat.zero_add, few1, ct, sub_i]
      have e0 : ((Nat.succ (1 + 1) : Nat) : Int) - 1 = 2 := rfl
      have e0' : ((Nat.succ 2 : Nat) : Int) - 1 = 2 := rfl
      have e2 : (1 : Int) + 0 = 1 := rfl
      have e3 : (1 : Int) + 1 = 2 := rfl
      simp only [e0, e0', rg2, obs1, compM, mulL 3 _ rfl, add_i, sub_i, e2, e3, ix21, ix22, eb, eb', lim2, tuL, addT2]
      rfl
end K11

namespace K11
open PySem L2 EV
mutual
def Sv : Val → Prop
  | .int i => -9 ≤ i ∧ i < 100
  | .bool _ => True | .unit => True
  | .blame l => l.n < 90
  | .tag _ v => Sv v
  | .pair v w => Sv v ∧ Sv w
  | .lst vs => Svs vs
def Svs : VL → Prop
  | .nil => True
  | .cons v r => Sv v ∧ Svs r
end
theorem Svs.map {f : Val → Val} : ∀ {vs : VL}, Svs vs → (∀ v, Sv v → Sv (f v)) → Svs (vs.map f)
  | .nil, _, _ => trivial
  | .cons v r, h, e => ⟨e v h.1, Svs.map h.2 e⟩
theorem Sv.seen : ∀ (c : Co) (v : Val), (∀ l ∈ lbs c, l.n < 90) → Sv v → Sv (seen c v)
  | .any, v, _, h => h
  | .base b, v, _, h => h
  | .fail g l g', v, hl, h => by
    show Sv (if v.isB = true then v else .blame l)
    by_cases e : v.isB = true
    · rw [if_pos e]; exact h
    · rw [if_neg e]; exact hl l (by simp [lbs])
  | .to c g, v, hl, h => by
    have i := Sv.seen c v hl h
    show Sv (if (K11.seen c v).isB = true then K11.seen c v else .tag g (K11.seen c v))
    by_cases e : (K11.seen c v).isB = true
    · rw [if_pos e]; exact i
    · rw [if_neg e]; exact i
  | .frm g l c, v, hl, h => by
    cases v with
    | tag g' x =>
      show Sv (if g = g' then K11.seen c x else .blame l)
      by_cases e : g = g'
      · rw [if_pos e]; exact Sv.seen c x (fun l hl' => hl l (List.mem_cons_of_mem _ hl')) h
      · rw [if_neg e]; exact hl l List.mem_cons_self
    | _ => exact h
  | .lst c, v, hl, h => by
    cases v with
    | lst vs => exact Svs.map (vs := vs) h fun v hv => Sv.seen c v hl hv
    | _ => exact h
  | .two g c d, v, hl, h => by
    cases v with
    | pair x y => exact ⟨Sv.seen c x (fun l hl' => hl l (List.mem_append_left _ hl')) h.1, Sv.seen d y (fun l hl' => hl l (List.mem_append_right _ hl')) h.2⟩
    | _ => exact h
theorem vtok : PyData.canLay0 (.str "int") = true ∧ PyData.canLay0 (.str "bool") = true ∧ PyData.canLay0 (.str "unit") = true ∧ PyData.canLay0 (.str "tag") = true ∧ PyData.canLay0 (.str "pair") = true ∧ PyData.canLay0 (.str "blame") = true := by decide +kernel
theorem vtsz : ("int" : Str).cps.size ≤ 4 ∧ ("bool" : Str).cps.size ≤ 4 ∧ ("unit" : Str).cps.size ≤ 4 ∧ ("tag" : Str).cps.size ≤ 4 ∧ ("pair" : Str).cps.size ≤ 4 ∧ ("blame" : Str).cps.size ≤ 5 := by decide +kernel
theorem int_ok' : ∀ i : Nat, i < 109 → PyData.weight (.int ((i : Int) - 9)) ≤ 8 ∧ PyData.intsShort 13 (.int ((i : Int) - 9)) = true ∧ PyData.showable (.int ((i : Int) - 9)) = true := by decide +kernel
theorem Sh.i {i : Int} (h : -9 ≤ i) (h' : i < 100) : Sh (.int i) 8 := by
  obtain ⟨n, e⟩ := Int.eq_ofNat_of_zero_le (show 0 ≤ i + 9 by omega)
  have := int_ok' n (by omega)
  rw [show (n : Int) - 9 = i by omega] at this
  exact ⟨rfl, this.1, this.2.1, this.2.2⟩
theorem Sh.bl (b : Bool) : Sh (.bool b) 0 := ⟨rfl, by simp [PyData.weight], rfl, rfl⟩
def ShL (xs : List D) (n : Nat) : Prop := PyData.canLayAll0 xs = true ∧ PyData.weightAll xs ≤ n ∧ PyData.intsShortAll 13 xs = true ∧ PyData.showableAll xs = true
theorem ShL.cons {x : D} {xs : List D} {n m : Nat} (h : Sh x n) (h' : ShL xs m) : ShL (x :: xs) (n + 1 + m) := by
  obtain ⟨a1, a2, a3, a4⟩ := h
  obtain ⟨b1, b2, b3, b4⟩ := h'
  refine ⟨by simp [PyData.canLayAll0, a1, b1], ?_, by simp [PyData.intsShortAll, a3, b3], by simp [PyData.showableAll, a4, b4]⟩
  simp only [PyData.weightAll]; omega
theorem ShL.nil : ShL [] 0 := ⟨rfl, Nat.le_refl _, rfl, rfl⟩
theorem ShL.tup {xs : List D} {n : Nat} (h : ShL xs n) : Sh (.tuple xs) n := by
  obtain ⟨b1, b2, b3, b4⟩ := h
  refine ⟨by simpa [PyData.canLay0] using b1, ?_, by simpa [PyData.intsShort] using b3, by simpa [PyData.showable] using b4⟩
  simp only [PyData.weight]; omega
mutual
theorem encV_shape : ∀ v : Val, Sv v → Sh (encV v) (40 * szV v - 10)
  | .int i, h => (Sh.t2 (Sh.s vtok.1 vtsz.1) (Sh.i h.1 h.2)).le (by simp only [szV]; omega)
  | .bool b, _ => (Sh.t2 (Sh.s vtok.2.1 vtsz.2.1) (Sh.bl b)).le (by simp only [szV]; omega)
  | .unit, _ => (Sh.t1 (Sh.s vtok.2.2.1 vtsz.2.2.1)).le (by simp only [szV]; omega)
  | .blame l, h => (Sh.t2 (n := 5) ⟨vtok.2.2.2.2.2, vtsz.2.2.2.2.2, rfl, rfl⟩ (encL_shape h)).le (by simp only [szV]; omega)
  | .tag g v, h => (Sh.t3 (Sh.s vtok.2.2.2.1 vtsz.2.2.2.1) (Sh.h g) (encV_shape v h)).le (by have := szV1 v; simp only [szV]; omega)
  | .pair v w, h => (Sh.t3 (Sh.s vtok.2.2.2.2.1 vtsz.2.2.2.2.1) (encV_shape v h.1) (encV_shape w h.2)).le (by have := szV1 v; have := szV1 w; simp only [szV]; omega)
  | .lst vs, h => ((ShL.cons (Sh.s tok.2.2.1 tsz.2.2.1) (encVs_shape vs h)).tup).le (by simp only [szV]; omega)
theorem encVs_shape : ∀ vs : VL, Svs vs → ShL (encVs vs) (40 * szVs vs)
  | .nil, _ => ShL.nil
  | .cons v r, h => by
    have a := ShL.cons (encV_shape v h.1) (encVs_shape r h.2)
    have s1 := szV1 v
    refine ⟨a.1, Nat.le_trans a.2.1 ?_, a.2.2⟩
    simp only [szVs]; omega
end
mutual
theorem dleV : ∀ (v : Val) (n : Nat), dpV v ≤ n → dle n (encV v) = true
  | .int i, n + 1, _ => by simp [encV]
  | .bool i, n + 1, _ => by simp [encV]
  | .unit, n + 1, _ => by simp [encV]
  | .blame l, n + 2, _ => by simp [encV, dleL]
  | .tag g v, n + 1, h => by simp only [dpV] at h; simp [encV, dleV v n (by omega)]
  | .pair v w, n + 1, h => by simp only [dpV] at h; simp [encV, dleV v n (by omega), dleV w n (by omega)]
  | .lst vs, n + 1, h => by simp only [dpV] at h; simp [encV, dleVs vs n (by omega)]
  | .blame l, 1, h => by simp only [dpV] at h; omega
  | .blame l, 0, h => by simp only [dpV] at h; omega
  | .int _, 0, h => by simp only [dpV] at h; omega
  | .bool _, 0, h => by simp only [dpV] at h; omega
  | .unit, 0, h => by simp only [dpV] at h; omega
  | .tag _ _, 0, h => by simp only [dpV] at h; omega
  | .pair _ _, 0, h => by simp only [dpV] at h; omega
  | .lst _, 0, h => by simp only [dpV] at h; omega
theorem dleVs : ∀ (vs : VL) (n : Nat), dpVs vs ≤ n → dles n (encVs vs) = true
  | .nil, n, _ => by simp [encVs]
  | .cons v r, n, h => by simp only [dpVs] at h; simp [encVs, dleV v n (by omega), dleVs r n (by omega)]
end
theorem rp_V {v : Val} (h : Sv v) (hs : szV v ≤ 1000) (hd' : dpV v ≤ 60) : bD .repr [encV v] = some (.str (encV v).shown) := by
  obtain ⟨a1, a2, a3, a4⟩ := encV_shape v h
  exact repr_of (dleV v 60 hd') a1 (by omega) a3 a4
/-! ### equal values -/
mutual
theorem eqv_refl : ∀ v : Val, PyData.eqv (encV v) (encV v) = true
  | .int i => by simp [encV, v_tt, v_cc, v_ss, v_nn, PyData.eqv]
  | .bool i => by simp [encV, v_tt, v_cc, v_ss, v_nn, PyData.eqv]
  | .unit => by simp [encV, v_tt, v_cc, v_ss, v_nn]
  | .blame l => by simp [encV, v_tt, v_cc, v_ss, v_nn, eqvL]
  | .tag g v => by simp [encV, v_tt, v_cc, v_ss, v_nn, eqv_refl v]
  | .pair v w => by simp [encV, v_tt, v_cc, v_ss, v_nn, eqv_refl v, eqv_refl w]
  | .lst vs => by simp [encV, v_tt, v_cc, v_ss, eqvs_refl vs]
theorem eqvs_refl : ∀ vs : VL, PyData.eqvAll (encVs vs) (encVs vs) = true
  | .nil => by simp [encVs, v_nn]
  | .cons v r => by simp [encVs, v_cc, eqv_refl v, eqvs_refl r]
end
theorem neV {v : Val} (h : dpV v ≤ 60) : cmpD .NotEq (encV v) (encV v) = some false := by
  show (cond (dle 60 (encV v) && dle 60 (encV v)) (some (PyData.eqv (encV v) (encV v))) none).map _ = _
  rw [dleV v 60 h, eqv_refl]; rfl
def eqV (v w : Val) : Bool := PyData.eqv (encV v) (encV w)
theorem neV2 {v w : Val} (h : dpV v ≤ 60) (h' : dpV w ≤ 60) : cmpD .NotEq (encV v) (encV w) = some (!eqV v w) := by
  show (cond (dle 60 (encV v) && dle 60 (encV w)) (some (PyData.eqv (encV v) (encV w))) none).map _ = _
  rw [dleV v 60 h, dleV w 60 h']; rfl
mutual
theorem eqV_eq : ∀ v w : Val, PyData.eqv (encV v) (encV w) = true → v = w
  | .int i, w, h => by
    cases w <;> simp [encV, v_tt, v_cc, v_ss, v_nn, v_nc, v_cn] at h
    simp [PyData.eqv] at h; rw [h]
  | .bool i, w, h => by
    cases w <;> simp [encV, v_tt, v_cc, v_ss, v_nn, v_nc, v_cn] at h
    simp [PyData.eqv] at h; rw [h]
  | .unit, w, h => by
    cases w <;> simp [encV, v_tt, v_cc, v_ss, v_nn, v_nc, v_cn] at h
    rfl
  | .blame l, w, h => by
    cases w <;> simp [encV, v_tt, v_cc, v_ss, v_nn, v_nc, v_cn, eqvL] at h
    rw [h]
  | .tag g v, w, h => by
    cases w <;> simp [encV, v_tt, v_cc, v_ss, v_nn, v_nc, v_cn] at h
    rw [h.1, eqV_eq v _ h.2]
  | .pair v v', w, h => by
    cases w <;> simp [encV, v_tt, v_cc, v_ss, v_nn, v_nc, v_cn] at h
    rw [eqV_eq v _ h.1, eqV_eq v' _ h.2]
  | .lst vs, w, h => by
    cases w <;> simp [encV, v_tt, v_cc, v_ss, v_nn, v_nc, v_cn] at h
    rw [eqVs_eq vs _ h]
theorem eqVs_eq : ∀ v w : VL, PyData.eqvAll (encVs v) (encVs w) = true → v = w
  | .nil, w, h => by
    cases w <;> simp [encVs, v_nn, v_nc, v_cn] at h
    rfl
  | .cons v r, w, h => by
    cases w <;> simp [encVs, v_cc, v_nn, v_nc, v_cn] at h
    rw [eqV_eq v _ h.1, eqVs_eq r _ h.2]
end
theorem eqV_iff (v w : Val) : eqV v w = true ↔ v = w := ⟨eqV_eq v w, fun h => by rw [h]; exact eqv_refl w⟩
end K11

namespace EV
open PySem L2
theorem wh_stop {t : List Sl → Option Bool} {body : List Sl → Option Fl} {n : Nat} {σ : List Sl} (h : t σ = some false) : whileL t body (n + 1) σ = some (.next σ) := by
  unfold whileL; rw [h]; rfl
theorem wh_step {t : List Sl → Option Bool} {body : List Sl → Option Fl} {n : Nat} {σ σ2 : List Sl} (h : t σ = some true) (h2 : body σ = some (.next σ2)) : whileL t body (n + 1) σ = whileL t body n σ2 := by
  rw [whileL, h, Option.bind_some, cond_true, h2]; rfl
end EV
namespace K11
open PySem L2 EV
theorem lv_t (k : Nat) (w0 w1 w2 w3 x : D) : tst ⟨f__law_value.N, hd.G, callN T hd.G k⟩ ED [Sl.sh w0, Sl.sh w1, Sl.sh w2, Sl.sh w3, Sl.sh x, Sl.un, Sl.un, Sl.un] (whT (stAt (ifA (stAt f__law_value.body 0)) 1)) = cmpD .Eq x (PyData.tuple [(PyData.str "?")]) := by kernel_rfl
theorem lv_b (k : Nat) (w0 w1 w2 w3 x : D) : exs ⟨f__law_value.N, hd.G, callN T hd.G k⟩ 55 [Sl.sh w0, Sl.sh w1, Sl.sh w2, Sl.sh w3, Sl.sh x, Sl.un, Sl.un, Sl.un] (whB (stAt (ifA (stAt f__law_value.body 0)) 1)) = some (.next [Sl.sh w0, Sl.sh w1, Sl.sh w2, Sl.sh w3, Sl.sh (enc (.t0 .int)), Sl.un, Sl.un, Sl.un]) := by kernel_rfl
def nh (A : Ty) : Ty := if A = hole then .t0 .int else A
theorem lv_while (k : Nat) (w0 w1 w2 w3 : D) {A : Ty} (o : Ok A) : whileL (fun σ => tst ⟨f__law_value.N, hd.G, callN T hd.G k⟩ ED σ (whT (stAt (ifA (stAt f__law_value.body 0)) 1))) (fun σ => exs ⟨f__law_value.N, hd.G, callN T hd.G k⟩ 55 σ (whB (stAt (ifA (stAt f__law_value.body 0)) 1))) turns [Sl.sh w0, Sl.sh w1, Sl.sh w2, Sl.sh w3, Sl.sh (enc A), Sl.un, Sl.un, Sl.un] =
    some (.next [Sl.sh w0, Sl.sh w1, Sl.sh w2, Sl.sh w3, Sl.sh (enc (nh A)), Sl.un, Sl.un, Sl.un]) := by
  have tn : turns = 9999998 + 1 + 1 := rfl
  rw [tn]
  unfold nh
  by_cases e : A = hole
  · rw [if_pos e]
    have h1 := lv_t k w0 w1 w2 w3 (enc A)
    rw [eqH o, decide_eq_true e] at h1
    have h2 := lv_b k w0 w1 w2 w3 (enc A)
    rw [wh_step (t := fun σ => tst ⟨f__law_value.N, hd.G, callN T hd.G k⟩ ED σ (whT (stAt (ifA (stAt f__law_value.body 0)) 1))) h1 h2]
    have h3 := lv_t k w0 w1 w2 w3 (enc (.t0 .int))
    have oi : Ok (.t0 .int) := by show (1 : Nat) ≤ 50; decide
    rw [eqH oi, decide_eq_false (by simp : ¬ Ty.t0 .int = hole)] at h3
    exact wh_stop (t := fun σ => tst ⟨f__law_value.N, hd.G, callN T hd.G k⟩ ED σ (whT (stAt (ifA (stAt f__law_value.body 0)) 1))) h3
  · rw [if_neg e]
    have h1 := lv_t k w0 w1 w2 w3 (enc A)
    rw [eqH o, decide_eq_false e] at h1
    exact wh_stop (t := fun σ => tst ⟨f__law_value.N, hd.G, callN T hd.G k⟩ ED σ (whT (stAt (ifA (stAt f__law_value.body 0)) 1))) h1
theorem lv_wide {A : Ty} {h : Hd7} (e : headT A = some h) : ((((ixD (enc A) (PyData.int 0)).bind fun x3 => some ([x3])).bind fun ds4 => cond (decide (ds4.length ≤ few)) (some (PyData.tuple ds4)) none).bind fun x5 => (((bD .len [enc A]).bind fun x6 => binD .Sub x6 (PyData.int 1)).bind fun x7 => binD .Mult (PyData.tuple [(PyData.tuple [(PyData.str "?")])]) x7).bind fun x8 => binD .Add x5 x8) = some (enc (wide h)) := by
  cases A with
  | t0 g => cases g <;> cases e <;> kernel_rfl
  | t1 g a => cases g <;> cases e <;> kernel_rfl
  | t2 g a b => cases g <;> cases e <;> kernel_rfl
def slk (A : Ty) : Nat := if A = hole then 2 else 3
structure Vv (v : Val) (A : Ty) (n : Nat) : Prop where
  t : VT v A
  b : v.isB = false
  s : szV v + slk A ≤ 2 ^ (n + (A.dp - 1) + 2)
  d : dpV v ≤ 2 * n + 1 + A.dp
  i : Sv v
def V (ds : List Int) (n : Nat) (A : Ty) : Prop := ∀ (deep i : Int) (m : Nat), deep ≤ n → 0 ≤ i → A.dp + 2 * n + 6 ≤ m → ∃ v, callN T hd.G m "_law_value" [.list (ds.map .int), .int i, enc A, .int deep] = some (encV v) ∧ Vv v A n
theorem v_base {ds : List Int} (hDr : Dr ds) {h : H0} (ne : h ≠ .hole) (n : Nat) (deep i : Int) (m : Nat) (hi : 0 ≤ i) (hm : 2 ≤ m) : ∃ v, callN T hd.G m "_law_value" [.list (ds.map .int), .int i, enc (.t0 h), .int deep] = some (encV v) ∧ Vv v (.t0 h) n := by
  obtain ⟨m, rfl⟩ : ∃ j, m = j + 2 := ⟨m - 2, by omega⟩
  have ok : Ok (.t0 h) := by show (1 : Nat) ≤ 50; decide
  have nh : decide (Ty.t0 h = hole) = false := decide_eq_false (by simpa using ne)
  have s3 : slk (.t0 h) = 3 := if_neg (by simpa using ne)
  have p4 := pow4 (n + 0)
  have mk : ∀ v : Val, VT v (.t0 h) → v.isB = false → szV v = 1 → dpV v = 1 → Sv v → Vv v (.t0 h) n := fun v t b s d i =>
    ⟨t, b, by rw [s, s3]; exact p4, by simp only [Ty.dp]; omega, i⟩
  obtain ⟨r, er, r0, r1⟩ := ev_mix hDr m i 100 hi (by decide)
  obtain ⟨q, eq, q0, q1⟩ := ev_mix hDr m i 2 hi (by decide)
  rw [r__law_value, eqH ok, nh]
  cases h with
  | hole => exact absurd rfl ne
  | int =>
    refine ⟨.int (r - 9), ?_, mk _ rfl rfl rfl rfl ⟨by omega, by omega⟩⟩
    have z : (hd0 (Ty.t0 .int) == ("int" : Str)) = true := by decide +kernel
    simp only [obs1, cf, ix0, eq_str, z, ct, er, sub_i, List.length_cons, List.length_nil, Nat.zero_add, Nat.reduceAdd, few2]
    rfl
  | bool =>
    refine ⟨.bool (q == 0), ?_, mk _ rfl rfl rfl rfl trivial⟩
    have z : (hd0 (Ty.t0 .bool) == ("int" : Str)) = false := by decide +kernel
    have z2 : (hd0 (Ty.t0 .bool) == ("bool" : Str)) = true := by decide +kernel
    simp only [obs1, cf, ix0, eq_str, z, z2, ct, eq, eq_i, Option.map_some, List.length_cons, List.length_nil, Nat.zero_add, Nat.reduceAdd, few2]
    rfl
  | unit =>
    refine ⟨.unit, ?_, mk _ rfl rfl rfl rfl trivial⟩
    have z : (hd0 (Ty.t0 .unit) == ("int" : Str)) = false := by decide +kernel
    have z2 : (hd0 (Ty.t0 .unit) == ("bool" : Str)) = false := by decide +kernel
    have z3 : (hd0 (Ty.t0 .unit) == ("unit" : Str)) = true := by decide +kernel
    simp only [obs1, cf, ix0, eq_str, z, z2, z3, ct]
    rfl
theorem sl_le (A : Ty) : 2 ≤ slk A ∧ slk A ≤ 3 := by unfold slk; by_cases h : A = hole <;> simp [h]
theorem v_pair {ds : List Int} (hDr : Dr ds) {n : Nat} {a b : Ty} (oo : Ok (.t2 .pair a b)) (ha : V ds n a) (hb : V ds n b) : V ds n (.t2 .pair a b) := by
  intro deep i m hdp hi hm
  obtain ⟨m, rfl⟩ : ∃ j, m = j + 1 := ⟨m - 1, by omega⟩
  simp only [Ty.dp] at hm
  obtain ⟨x, ex, vx⟩ := ha deep (3 * i + 1) m hdp (by omega) (by omega)
  obtain ⟨y, ey, vy⟩ := hb deep (3 * i + 2) m hdp (by omega) (by omega)
  refine ⟨.pair x y, ?_, ⟨⟨a, b, rfl, vx.t, vy.t⟩, rfl, ?_, ?_, ⟨vx.i, vy.i⟩⟩⟩
  · have z : (hd0 (Ty.t2 .pair a b) == ("int" : Str)) = false := by show (n2 .pair == ("int" : Str)) = false; decide +kernel
    have z2 : (hd0 (Ty.t2 .pair a b) == ("bool" : Str)) = false := by show (n2 .pair == ("bool" : Str)) = false; decide +kernel
    have z3 : (hd0 (Ty.t2 .pair a b) == ("unit" : Str)) = false := by show (n2 .pair == ("unit" : Str)) = false; decide +kernel
    have z4 : (hd0 (Ty.t2 .pair a b) == ("list" : Str)) = false := by show (n2 .pair == ("list" : Str)) = false; decide +kernel
    rw [r__law_value, eqH oo, ne_hole2]
    simp only [obs1, cf, ix0, eq_str, z, z2, z3, z4, mulL 3 _ rfl, add_i, ix21, ix22, ex, ey, List.length_cons, List.length_nil, Nat.zero_add, Nat.reduceAdd, few3, ct]
    rfl
  · have h1 := vx.s
    have h2 := vy.s
    have := sl_le a
    have := sl_le b
    have d1 := dp1 a
    have d2 := dp1 b
    have p1 := Nat.pow_le_pow_right (n := 2) (by decide) (show n + (a.dp - 1) + 2 ≤ n + (max a.dp b.dp - 1) + 2 by omega)
    have p2 := Nat.pow_le_pow_right (n := 2) (by decide) (show n + (b.dp - 1) + 2 ≤ n + (max a.dp b.dp - 1) + 2 by omega)
    have := sl_le (.t2 .pair a b)
    simp only [szV, Ty.dp]
    rw [show n + (max a.dp b.dp + 1 - 1) + 2 = n + (max a.dp b.dp - 1) + 2 + 1 by omega, Nat.pow_succ]
    omega
  · have := vx.d; have := vy.d; simp only [dpV, Ty.dp]; omega
theorem v_list {ds : List Int} (hDr : Dr ds) {n : Nat} {a : Ty} (oo : Ok (.t1 .list a)) (ha : V ds n a) : V ds n (.t1 .list a) := by
  intro deep i m hdp hi hm
  obtain ⟨m, rfl⟩ : ∃ j, m = j + 2 := ⟨m - 2, by omega⟩
  simp only [Ty.dp] at hm
  obtain ⟨x, ex, vx⟩ := ha deep (3 * i + 0) (m + 1) hdp (by omega) (by omega)
  obtain ⟨y, ey, vy⟩ := ha deep (3 * i + 1) (m + 1) hdp (by omega) (by omega)
  obtain ⟨r, er, r0, r1⟩ := ev_mix hDr m i 3 hi (by decide)
  have z : (hd0 (Ty.t1 .list a) == ("int" : Str)) = false := by show (n1 .list == ("int" : Str)) = false; decide +kernel
  have z2 : (hd0 (Ty.t1 .list a) == ("bool" : Str)) = false := by show (n1 .list == ("bool" : Str)) = false; decide +kernel
  have z3 : (hd0 (Ty.t1 .list a) == ("unit" : Str)) = false := by show (n1 .list == ("unit" : Str)) = false; decide +kernel
  have z4 : (hd0 (Ty.t1 .list a) == ("list" : Str)) = true := by show (n1 .list == ("list" : Str)) = true; decide +kernel
  have h1 := vx.s
  have h2 := vy.s
  have sa := sl_le a
  have d1 := dp1 a
  have s3 : slk (.t1 .list a) = 3 := if_neg (by simp)
  have sz : ∀ s, s ≤ szV x + szV y → s + 1 + slk (.t1 .list a) ≤ 2 ^ (n + ((Ty.t1 .list a).dp - 1) + 2) := by
    intro s hs
    rw [s3, show n + ((Ty.t1 .list a).dp - 1) + 2 = n + (a.dp - 1) + 2 + 1 by simp only [Ty.dp]; omega, Nat.pow_succ]
    omega
  have dd : ∀ s, s ≤ max (dpV x) (dpV y) → s + 1 ≤ 2 * n + 1 + (Ty.t1 .list a).dp := by
    intro s hs
    have := vx.d; have := vy.d; simp only [Ty.dp]; omega
  rw [r__law_value, eqH oo, ne_hole1]
  obtain ⟨q, rfl⟩ := Int.eq_ofNat_of_zero_le r0
  match q, r1 with
  | 0, _ =>
    refine ⟨.lst .nil, ?_, ⟨⟨a, rfl, trivial⟩, rfl, sz 0 (by omega), dd 0 (by omega), trivial⟩⟩
    have er : callN T hd.G (m + 1) "_law_mix" [.list (ds.map .int), .int i, .int 3] = some (.int 0) := er
    simp only [obs1, cf, ix0, eq_str, z, z2, z3, z4, ct, er, rg0, compM, lim0, tuL, addT0]
    rfl
  | 1, _ =>
    refine ⟨.lst (.cons x .nil), ?_, ⟨⟨a, rfl, vx.t, trivial⟩, rfl, sz _ (by simp only [szVs]; omega), dd _ (by simp only [dpVs]; omega), vx.i, trivial⟩⟩
    have er : callN T hd.G (m + 1) "_law_mix" [.list (ds.map .int), .int i, .int 3] = some (.int 1) := er
    simp only [obs1, cf, ix0, eq_str, z, z2, z3, z4, ct, er, rg1, compM, mulL 3 _ rfl, add_i, ix11, ex, lim1, tuL, addT1]
    rfl
  | 2, _ =>
    refine ⟨.lst (.cons x (.cons y .nil)), ?_, ⟨⟨a, rfl, vx.t, vy.t, trivial⟩, rfl, sz _ (by simp only [szVs]; omega), dd _ (by simp only [dpVs]; omega), vx.i, vy.i, trivial⟩⟩
    have er : callN T hd.G (m + 1) "_law_mix" [.list (ds.map .int), .int i, .int 3] = some (.int 2) := er
    simp only [obs1, cf, ix0, eq_str, z, z2, z3, z4, ct, er, rg2, compM, mulL 3 _ rfl, add_i, ix11, ex, ey, lim2, tuL, addT2]
    rfl
  | q + 3, h => exact absurd h (by omega)
theorem nh_head {A : Ty} (f : flT A = true) : ∃ h, headT (nh A) = some h ∧ fl7 h = true := by
  unfold nh
  by_cases e : A = hole
  · rw [if_pos e]; exact ⟨.int, rfl, rfl⟩
  · rw [if_neg e]
    cases A with
    | t0 g => cases g <;> first | exact ⟨_, rfl, rfl⟩ | exact absurd rfl e
    | t1 g a => cases g <;> first | exact ⟨_, rfl, rfl⟩ | cases f
    | t2 g a b => cases g <;> first | exact ⟨_, rfl, rfl⟩ | cases f
theorem nh_dp {A : Ty} : (nh A).dp ≤ A.dp := by
  unfold nh
  by_cases e : A = hole
  · rw [if_pos e]; exact dp1 A
  · rw [if_neg e]; exact Nat.le_refl _
theorem v_hole {ds : List Int} (hDr : Dr ds) : ∀ n, n ≤ 40 → V ds n hole
  | n, hn => by
    have ih : ∀ n', n = n' + 1 → V ds n' hole := fun n' e => by subst e; exact v_hole hDr n' (by omega)
    intro deep i m hdp hi hm
    obtain ⟨m, rfl⟩ : ∃ j, m = j + 1 := ⟨m - 1, by omega⟩
    have hm : 1 + 2 * n + 6 ≤ m + 1 := hm
    obtain ⟨A, eA, dA, fA⟩ := ev_type hDr false n deep (i + 1) m hdp (by omega) (by omega)
    have eA : callN T hd.G m "_law_type" [.list (ds.map .int), .int (i + 1), .int deep, (PyData.list [(PyData.str "pair"), (PyData.str "list")])] = some (enc A) := eA
    obtain ⟨h, eh, fh⟩ := nh_head fA
    have wd := wide_dp eh
    have nd := nh_dp (A := A)
    have key : ∃ v, callN T hd.G m "_law_value" [.list (ds.map .int), .int (i + 2), enc (wide h), .int (deep - 1)] = some (encV v) ∧ Vv (.tag h v) hole n := by
      have base : ∀ g : H0, wide h = .t0 g → g ≠ .hole → ∃ v, callN T hd.G m "_law_value" [.list (ds.map .int), .int (i + 2), enc (wide h), .int (deep - 1)] = some (encV v) ∧ Vv (.tag h v) hole n := by
        intro g eg ng
        obtain ⟨v, ev, vv⟩ := v_base hDr ng 0 (deep - 1) (i + 2) m (by omega) (by omega)
        refine ⟨v, by rw [eg]; exact ev, ⟨⟨rfl, vv.b, by rw [eg]; exact vv.t⟩, rfl, ?_, ?_, vv.i⟩⟩
        · have s := vv.s
          have s3 : slk (.t0 g) = 3 := if_neg (by simpa using ng)
          rw [s3] at s
          have s : szV v + 3 ≤ 4 := s
          have p4 : 4 ≤ 2 ^ (n + 0 + 2) := pow4 n
          show szV v + 1 + 2 ≤ 2 ^ (n + 0 + 2)
          omega
        · have d := vv.d
          have d : dpV v ≤ 2 := d
          show dpV v + 1 ≤ 2 * n + 1 + 1
          have : dpV v ≤ 1 := by
            have t := vv.t
            cases v with
            | tag _ _ => simp only [VT] at t; exact absurd (by simpa using t.1) ng
            | pair _ _ => simp [VT] at t
            | lst _ => simp [VT] at t
            | blame _ => have := vv.b; cases this
            | _ => exact Nat.le_refl 1
          omega
      have deepc : ∀ n', n = n' + 1 → V ds n' (wide h) → (wide h).dp = 2 → wide h ≠ hole → ∃ v, callN T hd.G m "_law_value" [.list (ds.map .int), .int (i + 2), enc (wide h), .int (deep - 1)] = some (encV v) ∧ Vv (.tag h v) hole n := by
        intro n' en hv d2 nhw
        subst en
        obtain ⟨v, ev, vv⟩ := hv (deep - 1) (i + 2) m (by omega) (by omega) (by omega)
        refine ⟨v, ev, ⟨⟨rfl, vv.b, vv.t⟩, rfl, ?_, ?_, vv.i⟩⟩
        · have s := vv.s
          have s3 : slk (wide h) = 3 := if_neg nhw
          rw [s3, d2] at s
          show szV v + 1 + 2 ≤ 2 ^ (n' + 1 + 0 + 2)
          have : n' + (2 - 1) + 2 = n' + 1 + 0 + 2 := rfl
          rw [this] at s; omega
        · have d := vv.d
          rw [d2] at d
          show dpV v + 1 ≤ 2 * (n' + 1) + 1 + 1
          omega
      cases h with
      | int => exact base .int rfl (by decide)
      | bool => exact base .bool rfl (by decide)
      | unit => exact base .unit rfl (by decide)
      | fn => cases fh
      | cell => cases fh
      | pair =>
        have : 2 ≤ n + 1 := Nat.le_trans (show (2 : Nat) ≤ (wide .pair).dp by decide) (by omega)
        obtain ⟨n', rfl⟩ : ∃ j, n = j + 1 := ⟨n - 1, by omega⟩
        exact deepc n' rfl (v_pair hDr (by show (2 : Nat) ≤ 50; decide) (ih n' rfl) (ih n' rfl)) rfl (by simp [wide])
      | list =>
        have : 2 ≤ n + 1 := Nat.le_trans (show (2 : Nat) ≤ (wide .list).dp by decide) (by omega)
        obtain ⟨n', rfl⟩ : ∃ j, n = j + 1 := ⟨n - 1, by omega⟩
        exact deepc n' rfl (v_list hDr (by show (2 : Nat) ≤ 50; decide) (ih n' rfl)) rfl (by simp [wide])
    obtain ⟨v, ev, vv⟩ := key
    refine ⟨.tag h v, ?_, vv⟩
    have oA : Ok A := by show A.dp ≤ 50; omega
    have lw := lv_wide eh
    have i0 : ixD (enc (nh A)) (.int 0) = some (.str (n7 h)) := by rw [ix0, hd7 eh]
    rw [r__law_value, eqH Ok.h, decide_eq_true rfl]
    simp only [obs1, ct, add_i, eA]
    rw [lv_while _ _ _ _ _ oA, obs1]
    show exsK _ 56 _ _ _ = _
    rw [r_lv, lw]
    simp only [obs1, i0, add_i, sub_i, rdow, ev, List.length_cons, List.length_nil, Nat.zero_add, Nat.reduceAdd, few3, ct]
    rfl
theorem v_all {ds : List Int} (hDr : Dr ds) (n : Nat) (hn : n ≤ 40) : ∀ A : Ty, flT A = true → Ok A → V ds n A
  | .t0 h, f, o => by
    by_cases e : h = .hole
    · subst e; exact v_hole hDr n hn
    · intro deep i m _ hi hm
      exact v_base hDr e n deep i m hi (by omega)
  | .t1 .list a, f, o => v_list hDr o (v_all hDr n hn a f o.a)
  | .t2 .pair a b, f, o => by
    simp only [flT, Bool.and_eq_true] at f
    exact v_pair hDr o (v_all hDr n hn a f.1 o.l) (v_all hDr n hn b f.2 o.r)
  | .t1 .cell _, f, _ => by cases f
  | .t2 .fn _ _, f, _ => by cases f
end K11

namespace K11
open PySem L2 EV
/-! ### flat coercions -/
theorem fl7_head {A : Ty} {h : Hd7} (f : flT A = true) (e : headT A = some h) : fl7 h = true := by
  cases A with
  | t0 g => cases g <;> cases e <;> rfl
  | t1 g a => cases g <;> first | (cases f; done) | (cases e; rfl)
  | t2 g a b => cases g <;> first | (cases f; done) | (cases e; rfl)
theorem flC_st {r : Ty → Ty → Lab → Co} (hr : ∀ a b l, flT a = true → flT b = true → flC (r a b l) = true) (l : Lab) {A B : Ty} (fA : flT A = true) (fB : flT B = true) : flC (st r l A B) = true := by
  unfold st
  split <;> first
    | rfl
    | (cases fA; done)
    | exact hr _ _ l fA fB
    | (simp only [flT, Bool.and_eq_true] at fA fB; simp only [flC, Bool.and_eq_true]; exact ⟨hr _ _ l fA.1 fB.1, hr _ _ l fA.2 fB.2⟩)
theorem flC_mk : ∀ (n : Nat) (A B : Ty) (l : Lab), flT A = true → flT B = true → flC (mk n A B l) = true
  | 0, A, B, l, _, _ => rfl
  | n + 1, A, B, l, fA, fB => by
    have ih := flC_mk n
    unfold mk
    match e : headT A, e' : headT B with
    | none, none => rfl
    | some h, none => exact flC_st ih l fA (flT_wide (fl7_head fA e))
    | none, some h =>
      have f7 := fl7_head fB e'
      show (fl7 h && flC _) = true
      rw [f7, flC_st ih l (flT_wide f7) fB]; rfl
    | some h, some h' => exact flC_st ih l fA fB
theorem flC_idn : ∀ A : Ty, flC (idn A) = true
  | .t0 .hole => rfl | .t0 .int => rfl | .t0 .bool => rfl | .t0 .unit => rfl
  | .t1 .cell a => by show (flC (idn a) && flC (idn a)) = true; rw [flC_idn a]; rfl
  | .t1 .list a => flC_idn a
  | .t2 .fn a b => by show (flC (idn a) && flC (idn b)) = true; rw [flC_idn a, flC_idn b]; rfl
  | .t2 .pair a b => by show (flC (idn a) && flC (idn b)) = true; rw [flC_idn a, flC_idn b]; rfl
theorem flC_comp : ∀ (n : Nat) {a b : Co} {A B C : Ty}, dpC a + dpC b ≤ n → W a A B → W b B C → flC a = true → flC b = true → flC (comp a b) = true
  | 0, a, b, _, _, _, h, _, _, _, _ => by have := dpC1 a; omega
  | n + 1, a, b, A, B, C, hn, w, w', fa, fb => by
    have ih := @flC_comp n
    cases meet w w' with
    | any b B C w hB => rw [c_any]; exact fb
    | fail h l h' b A B C e ne => rw [c_fail]; rfl
    | frm h l c b A B C hA m u0 u1 =>
      simp only [dpC] at hn
      simp only [flC, Bool.and_eq_true] at fa
      rw [c_frm]
      show (fl7 h && flC _) = true
      rw [fa.1, ih (by omega) u0 u1 fa.2 fb]; rfl
    | ta c h A B C hB hC p w => rw [c_to_any]; exact fa
    | tf c h h' l d A B C hB p u0 m u1 =>
      simp only [dpC] at hn
      simp only [flC, Bool.and_eq_true] at fb
      rw [c_to_frm]
      by_cases e : h = h'
      · subst e
        simp only [if_true]
        exact ih (by omega) u0 u1 fa fb.2
      · simp only [e, if_false]; rfl
    | pt c d h A B C p u0 hC p' u1 =>
      simp only [dpC] at hn
      rw [c_p_to p]
      exact ih (by omega) u0 u1 fa fb
    | pf c h l h' A B C p w e ne => rw [c_p_fail p]; rfl
    | bb b => rw [c_base]; rfl
    | ll c d a b e u0 u1 =>
      simp only [dpC] at hn
      rw [c_lst]
      exact ih (by omega) u0 u1 fa fb
    | ff c c' d d' a a' b b' e e' u0 w1 w2 w3 =>
      simp only [dpC] at hn
      simp only [flC, Bool.and_eq_true] at fa fb
      rw [c_fn]
      show (flC _ && flC _) = true
      rw [ih (by omega) w2 u0 fb.1 fa.1, ih (by omega) w1 w3 fa.2 fb.2]; rfl
    | pp c c' d d' a a' b b' e e' u0 w1 w2 w3 =>
      simp only [dpC] at hn
      simp only [flC, Bool.and_eq_true] at fa fb
      rw [c_pair]
      show (flC _ && flC _) = true
      rw [ih (by omega) u0 w2 fa.1 fb.1, ih (by omega) w1 w3 fa.2 fb.2]; rfl
    | cc c c' d d' a b e u0 w1 w2 w3 =>
      simp only [dpC] at hn
      simp only [flC, Bool.and_eq_true] at fa fb
      rw [c_cell]
      show (flC _ && flC _) = true
      rw [ih (by omega) u0 w2 fa.1 fb.1, ih (by omega) w3 w1 fb.2 fa.2]; rfl
/-! ### there and back -/
theorem back_st {n : Nat} (ih : ∀ A l l', A.dp ≤ n → flT A = true → comp (mk n A hole l) (mk n hole A l') = idn A) {A : Ty} {h : Hd7} (l l' : Lab) (e : headT A = some h) (f : flT A = true) (hA : A.dp ≤ n + 1) : comp (st (mk n) l A (wide h)) (st (mk n) l' (wide h) A) = idn A := by
  cases A with
  | t0 g => cases g <;> cases e <;> exact c_base _ _
  | t1 g a =>
    simp only [Ty.dp] at hA
    cases g with
    | cell => cases f
    | list =>
      cases e
      show comp (.lst (mk n a hole l)) (.lst (mk n hole a l')) = .lst (idn a)
      rw [c_lst, ih a l l' (by omega) f]
  | t2 g a b =>
    simp only [Ty.dp] at hA
    cases g with
    | fn => cases f
    | pair =>
      cases e
      simp only [flT, Bool.and_eq_true] at f
      show comp (.two .pair (mk n a hole l) (mk n b hole l)) (.two .pair (mk n hole a l') (mk n hole b l')) = .two .pair (idn a) (idn b)
      rw [c_pair, ih a l l' (by omega) f.1, ih b l l' (by omega) f.2]
theorem mk_back : ∀ (n : Nat) (A : Ty) (l l' : Lab), A.dp ≤ n → flT A = true → comp (mk n A hole l) (mk n hole A l') = idn A
  | 0, A, l, l', h, _ => by have := dp1 A; omega
  | n + 1, A, l, l', hA, f => by
    have ih := mk_back n
    match e : headT A with
    | none =>
      have := head_none e
      subst this
      show comp .any .any = .any
      rw [c_any]
    | some h =>
      have e1 : mk (n + 1) A hole l = .to (st (mk n) l A (wide h)) h := by unfold mk; rw [e]; rfl
      have e2 : mk (n + 1) hole A l' = .frm h l' (st (mk n) l' (wide h) A) := by unfold mk; rw [e]; rfl
      rw [e1, e2, c_to_frm, if_pos rfl]
      exact back_st ih l l' e f hA
/-! ### made up -/
structure Ge (c : Co) (A B : Ty) : Prop where
  w : W c A B
  h : hgt c ≤ 4
  f : flC c = true
theorem Ge.o {c : Co} {A B : Ty} (g : Ge c A B) : OkC c := ok_hgt g.w (by have := g.h; omega)
theorem Ge.d {c : Co} {A B : Ty} (g : Ge c A B) : dpC c ≤ 12 := by have := (dp_hgt c g.w).2.2; have := g.h; omega
theorem Ge.comp {a b : Co} {A B C : Ty} (g : Ge a A B) (g' : Ge b B C) : Ge (comp a b) A C where
  w := g.w.comp g'.w
  h := by have := W.hgt g.w g'.w; have := g.h; have := g'.h; omega
  f := flC_comp _ (Nat.le_refl _) g.w g'.w g.f g'.f
theorem Ge.ev {a b : Co} {A B C : Ty} (g : Ge a A B) (g' : Ge b B C) {k : Nat} (hk : 160 ≤ k) : callN T hd.G k "compose" [encC a, encC b] = some (encC (K11.comp a b)) := by
  have := g.d
  have := g'.d
  exact ev_compose g.w g'.w g.o g'.o (by omega) (by omega) hk
theorem Ge.of {A B : Ty} (l : Lab) (hA : A.dp ≤ 4) (hB : B.dp ≤ 4) (c : Cs A B) (fA : flT A = true) (fB : flT B = true) : Ge (K11.mk 4 A B l) A B where
  w := W_mk 4 _ _ l hA hB c
  h := by have := hgt_mk 4 A B l; omega
  f := flC_mk 4 A B l fA fB
theorem hgt_idn : ∀ A, hgt (idn A) = A.dp
  | .t0 .hole => rfl | .t0 .int => rfl | .t0 .bool => rfl | .t0 .unit => rfl
  | .t1 .cell a => by simp only [idn, hgt, Ty.dp, hgt_idn a]; omega
  | .t1 .list a => by simp only [idn, hgt, Ty.dp, hgt_idn a]; omega
  | .t2 .fn a b => by simp only [idn, hgt, Ty.dp, hgt_idn a, hgt_idn b]; omega
  | .t2 .pair a b => by simp only [idn, hgt, Ty.dp, hgt_idn a, hgt_idn b]; omega
theorem Ge.idn {A : Ty} (hA : A.dp ≤ 4) : Ge (K11.idn A) A A := ⟨W_idn A, by rw [hgt_idn]; exact hA, flC_idn A⟩
theorem ix39 (s : Int) (h0 : 0 ≤ s) (h1 : s < 2) : ∃ q : Int, ixD (PyData.list [(PyData.int 3), (PyData.int 900)]) (.int s) = some (.int q) ∧ 0 < q := by
  obtain ⟨n, rfl⟩ := Int.eq_ofNat_of_zero_le h0
  match n, h1 with
  | 0, _ => exact ⟨3, rfl, by decide⟩
  | 1, _ => exact ⟨900, rfl, by decide⟩
  | n + 2, h => exact absurd h (by omega)
end K11

namespace K11
open PySem L2 EV
theorem ev_lab {ds : List Int} (hDr : Dr ds) (k : Nat) (i : Int) (hi : 0 ≤ i) : ∃ (s q r : Int), callN T hd.G (k + 1) "_law_mix" [.list (ds.map .int), (PyData.int 7), (PyData.int 2)] = some (.int s) ∧ ixD (PyData.list [(PyData.int 3), (PyData.int 900)]) (.int s) = some (.int q) ∧ callN T hd.G (k + 1) "_law_mix" [.list (ds.map .int), .int i, .int q] = some (.int r) ∧ ∃ l : Lab, PyData.tuple [.int r, .bool true] = encL l := by
  obtain ⟨s, es, s0, s1⟩ := ev_mix hDr k 7 2 (by decide) (by decide)
  obtain ⟨q, eq, q0⟩ := ix39 s s0 s1
  obtain ⟨r, er, r0, r1⟩ := ev_mix hDr k i q hi q0
  refine ⟨s, q, r, es, eq, er, ⟨r.toNat, true⟩, ?_⟩
  show _ = PyData.tuple [PyData.int ((r.toNat : Nat) : Int), _]
  rw [Int.toNat_of_nonneg r0]
theorem loopU {ds : List Int} (hDr : Dr ds) (w2 : D) (A : Ty) (hA : A.dp ≤ 4) (fA : flT A = true) (k : Nat) (hk : 170 ≤ k) (i : Int) (hi : 0 ≤ i) (n : Nat) :
    ∃ (c : Co) (B : Ty) (t5 t6 : Sl), forL (fun σ x => asg f__law_made_up.N σ (forT (stAt f__law_made_up.body 1)) x) (fun σ => exs ⟨f__law_made_up.N, hd.G, callN T hd.G k⟩ 57 σ (forB (stAt f__law_made_up.body 1))) (intRange 0 n) [Sl.sh (.list (ds.map .int)), Sl.sh (.int i), Sl.sh w2, Sl.sh (encC (idn A)), Sl.sh (enc A), Sl.un, Sl.un, Sl.un] =
      some (.next [Sl.sh (.list (ds.map .int)), Sl.sh (.int i), Sl.sh w2, Sl.sh (encC c), Sl.sh (enc B), t5, t6, Sl.un]) ∧ Ge c A B ∧ B.dp ≤ 4 ∧ flT B = true := by
  have := forL_inv (g := fun σ x => asg f__law_made_up.N σ (forT (stAt f__law_made_up.body 1)) x) (body := fun σ => exs ⟨f__law_made_up.N, hd.G, callN T hd.G k⟩ 57 σ (forB (stAt f__law_made_up.body 1)))
    (fun j σ => ∃ (c : Co) (B : Ty) (t5 t6 : Sl), σ = [Sl.sh (.list (ds.map .int)), Sl.sh (.int i), Sl.sh w2, Sl.sh (encC c), Sl.sh (enc B), t5, t6, Sl.un] ∧ Ge c A B ∧ B.dp ≤ 4 ∧ flT B = true)
    (intRange 0 n) 0 [Sl.sh (.list (ds.map .int)), Sl.sh (.int i), Sl.sh w2, Sl.sh (encC (idn A)), Sl.sh (enc A), Sl.un, Sl.un, Sl.un] ⟨_, _, _, _, rfl, Ge.idn hA, hA, fA⟩ ?_
  · obtain ⟨σ', q, c, B, t5, t6, rfl, h⟩ := this
    exact ⟨c, B, t5, t6, q, h⟩
  · rintro j hj σ ⟨c, B, t5, t6, rfl, g, hB, fB⟩
    have hx := range_at hj
    refine ⟨_, r__law_made_up_1g _ _ _ _ _ _ _ _ _, ?_⟩
    rw [hx]
    obtain ⟨k, rfl⟩ : ∃ j, k = j + 1 := ⟨k - 1, by omega⟩
    obtain ⟨B', eB', dB', cB, fB'⟩ := ev_next hDr false B 3 2 (100 * i + 40 * (0 + (j : Int))) (k + 1) fB (by decide) hB (by decide) (by omega) (by omega)
    have eB' : callN T hd.G (k + 1) "_law_next" [.list (ds.map .int), .int (100 * i + 40 * (0 + (j : Int))), enc B, (PyData.int 2), (PyData.list [(PyData.str "pair"), (PyData.str "list")])] = some (enc B') := eB'
    obtain ⟨s, q, r, es, eq, er, l, el⟩ := ev_lab hDr k (i + 1 + (0 + (j : Int))) (by omega)
    have em := ev_make (n := 4) (m := k + 1) (by decide) l hB dB' (fit4 hB) (fit4 dB') cB (by omega)
    have g' := Ge.of l hB dB' cB fB fB'
    have ec := g.ev g' (k := k + 1) (by omega)
    have e := r__law_made_up_1b (k + 1) (.list (ds.map .int)) (.int i) w2 (Sl.sh (encC c)) (Sl.sh (enc B)) t6 (.int (0 + (j : Int)))
    simp only [mulL 100 _ rfl, mulL 40 _ rfl, add_i, obs1, show ∀ x : D, Sl.share (.sh x) = .sh x from fun _ => rfl, rd_sh, eB', es, eq, er, List.length_cons, List.length_nil, Nat.zero_add, Nat.reduceAdd, few2, ct, el, em, ec] at e
    exact ⟨_, e, _, _, _, _, rfl, g.comp g', dB', fB'⟩
theorem ev_up {ds : List Int} (hDr : Dr ds) (ks : List Ty) (A : Ty) (hD : ∀ B ∈ ks ++ [A], B.dp ≤ 4) (hF : ∀ B ∈ ks ++ [A], flT B = true) (k : Nat) (hk : 170 ≤ k) (i : Int) (hi : 0 ≤ i) :
    ∃ c, callN T hd.G (k + 1) "_law_made_up" [.list (ds.map .int), .int i, .list ((ks ++ [A]).map enc)] = some (encC c) ∧ Ge c ((ks ++ [A]).getD 0 hole) A := by
  have h0 : 0 < (ks ++ [A]).length := by rw [List.length_append, List.length_singleton]; omega
  have m0 := getD_mem (d := hole) h0
  have hA0 := hD _ m0
  have fA0 := hF _ m0
  have hA := hD A (by simp)
  have fA := hF A (by simp)
  have i0 : ixD (.list ((ks ++ [A]).map enc)) (PyData.int 0) = some (enc ((ks ++ [A]).getD 0 hole)) := ixK (j := 0) h0
  have il : ixD (.list ((ks ++ [A]).map enc)) (PyData.int (-1)) = some (enc A) := by rw [List.map_append]; exact ix_last
  generalize (ks ++ [A]).getD 0 hole = X at *
  obtain ⟨k, rfl⟩ : ∃ j, k = j + 1 := ⟨k - 1, by omega⟩
  obtain ⟨r, er, r0, r1⟩ := ev_mix hDr k i 3 hi (by decide)
  have rr : rng1 (.int r) = some (intRange 0 r.toNat) := rng1_i r (by
    unfold small62
    rw [Bool.and_eq_true]
    exact ⟨decide_eq_true (by omega), decide_eq_true (by omega)⟩)
  obtain ⟨c, B, t5, t6, q, g, hB, fB⟩ := loopU hDr (.list ((ks ++ [A]).map enc)) X hA0 fA0 (k + 1) (by omega) i hi r.toNat
  rw [r__law_made_up, i0, obs1, obs1, ev_identity (fit4 hA0) (by omega), obs1, obs1, er, obs1, rr, obs1, q, obs1]
  show ∃ c, exsK _ 58 _ _ _ = _ ∧ _
  obtain ⟨s, q5, r5, es, eq, er5, l, el⟩ := ev_lab hDr k (i + 5) (by omega)
  obtain ⟨s', q6, r6, es', eq', er6, l', el'⟩ := ev_lab hDr k (i + 6) (by omega)
  have g1 := Ge.of l hB (show hole.dp ≤ 4 by decide) (.hr B) fB rfl
  have g2 := Ge.of l' (show hole.dp ≤ 4 by decide) hA (.hl A) rfl fA
  have em1 := ev_make (n := 4) (m := k + 1) (by decide) l hB (show hole.dp ≤ 4 by decide) (fit4 hB) (fit4 (by decide)) (.hr B) (by omega)
  have em2 := ev_make (n := 4) (m := k + 1) (by decide) l' (show hole.dp ≤ 4 by decide) hA (fit4 (by decide)) (fit4 hA) (.hl A) (by omega)
  have em1 : callN T hd.G (k + 1) "make" [enc B, (PyData.tuple [(PyData.str "?")]), encL l] = some (encC (mk 4 B hole l)) := em1
  have em2 : callN T hd.G (k + 1) "make" [(PyData.tuple [(PyData.str "?")]), enc A, encL l'] = some (encC (mk 4 hole A l')) := em2
  have ec1 := g.ev g1 (k := k + 1) (by omega)
  have ec2 := (g.comp g1).ev g2 (k := k + 1) (by omega)
  have es2 := es'.symm.trans es
  cases es2
  refine ⟨_, ?_, (g.comp g1).comp g2⟩
  rw [r__law_made_up_1a]
  have eq2 := eq'.symm.trans eq
  cases eq2
  simp only [show ∀ x : D, Sl.share (.sh x) = .sh x from fun _ => rfl, rd_sh, obs1, add_i, es, eq, er5, er6, List.length_cons, List.length_nil, Nat.zero_add, Nat.reduceAdd, few2, ct, el, el', em1, em2, il, ec1, ec2]
/-! ### labels -/
abbrev lbG : List Sl → D → Option (List Sl) := fun σ x => asg f__law_labels.N σ (forT (stAt f__law_labels.body 1)) x
abbrev lbB (k : Nat) : List Sl → Option Fl := fun σ => exs ⟨f__law_labels.N, hd.G, callN T hd.G k⟩ 57 σ (forB (stAt f__law_labels.body 1))
theorem lb_str (k : Nat) (w0 : D) (L : List D) (s : Sl) (x : Str) (r : List D) : forL lbG (lbB k) (.str x :: r) [Sl.sh w0, Sl.ow L, s] = forL lbG (lbB k) r [Sl.sh w0, Sl.ow L, Sl.sh (.str x)] := by
  refine forL_next (r__law_labels_1g _ _ _ _) ?_
  exact (r__law_labels_1b _ _ _ _).trans rfl
theorem lb_lab (k : Nat) (w0 : D) (L : List D) (s : Sl) (l : Lab) (r : List D) (hL : L.length < 500) : forL lbG (lbB k) (encL l :: r) [Sl.sh w0, Sl.ow L, s] = forL lbG (lbB k) r [Sl.sh w0, Sl.ow (L ++ [encL l]), Sl.sh (encL l)] := by
  refine forL_next (r__law_labels_1g _ _ _ _) ?_
  refine (r__law_labels_1b _ _ _ _).trans ?_
  have := ltL (n := L.length) (by omega)
  have := of_decide_eq_true this
  simp [this]
theorem lb_co (k : Nat) (w0 : D) (L M : List D) (s : Sl) (c : Co) (r : List D) (h : callN T hd.G k "_law_labels" [encC c] = some (.list M)) (hL : L.length + M.length < 500) :
    forL lbG (lbB k) (encC c :: r) [Sl.sh w0, Sl.ow L, s] = forL lbG (lbB k) r [Sl.sh w0, Sl.ow (L ++ M), Sl.sh (encC c)] := by
  refine forL_next (r__law_labels_1g _ _ _ _) ?_
  refine (r__law_labels_1b _ _ _ _).trans ?_
  rw [isIntC]
  simp [h, addLL (show L.length + M.length < 1000 by omega), owS]
theorem lb_end {k : Nat} {c : Co} {xs M : List D} (h : slD (encC c) (some 1) none = some (.tuple xs)) {s : Sl} (e : forL lbG (lbB k) xs [Sl.sh (encC c), Sl.ow [], Sl.un] = some (.next [Sl.sh (encC c), Sl.ow M, s])) :
    callN T hd.G (k + 1) "_law_labels" [encC c] = some (.list M) := by
  rw [r__law_labels, h, obs1, itT, obs1]
  show (forL lbG (lbB k) xs [Sl.sh (encC c), Sl.ow [], Sl.un]).bind _ = _
  rw [e, obs1]
  show exsK _ 58 _ _ _ = _
  rw [r__law_labels_1a]
theorem lw_lbs : ∀ (c : Co) (m : Nat), dpC c ≤ m → (lbs c).length < 64 → callN T hd.G m "_law_labels" [encC c] = some (.list ((lbs c).map encL))
  | c, 0, h, _ => by have := dpC1 c; omega
  | .any, m + 1, _, _ => lb_end sl0 (forL_nil _ _ _)
  | .base b, m + 1, _, _ => lb_end (slb b) (by rw [lb_str, forL_nil]; rfl)
  | .fail h l h', m + 1, _, _ => lb_end (slx h h' l) (by rw [lb_str, lb_lab _ _ _ _ _ _ (by decide), lb_str, forL_nil]; rfl)
  | .two g c d, m + 1, hk, hl => by
    simp only [dpC] at hk
    simp only [lbs, List.length_append] at hl
    have i := lw_lbs c m (by omega) (by omega)
    have j := lw_lbs d m (by omega) (by omega)
    exact lb_end (sl2 g c d) (by rw [lb_co _ _ _ _ _ _ _ i (by rw [List.length_map, List.length_nil]; omega), lb_co _ _ _ _ _ _ _ j (by rw [List.length_append, List.length_map, List.length_map, List.length_nil]; omega), forL_nil, List.nil_append, ← List.map_append]; rfl)
  | .lst c, m + 1, hk, hl => by
    simp only [dpC] at hk
    simp only [lbs] at hl
    have i := lw_lbs c m (by omega) (by omega)
    exact lb_end (sl1 c) (by rw [lb_co _ _ _ _ _ _ _ i (by rw [List.length_map, List.length_nil]; omega), forL_nil, List.nil_append]; rfl)
  | .frm h l c, m + 1, hk, hl => by
    simp only [dpC] at hk
    simp only [lbs, List.length_cons] at hl
    have i := lw_lbs c m (by omega) (by omega)
    exact lb_end (slf h l c) (by rw [lb_str, lb_lab _ _ _ _ _ _ (by decide), lb_co _ _ _ _ _ _ _ i (by rw [List.length_map]; simp; omega), forL_nil]; rfl)
  | .to c h, m + 1, hk, hl => by
    simp only [dpC] at hk
    simp only [lbs] at hl
    have i := lw_lbs c m (by omega) (by omega)
    exact lb_end (slt c h) (by rw [lb_co _ _ _ _ _ _ _ i (by rw [List.length_map, List.length_nil]; omega), lb_str, forL_nil, List.nil_append]; rfl)
/-- unlike labels -/
theorem ded_lt_iff : ∀ L : List Lab, (dedE (L.map encL)).length < L.length ↔ ¬ L.Nodup
  | [] => by simp [dedE]
  | l :: L => by
    have ih := ded_lt_iff L
    have le := ded_len (L.map encL)
    rw [List.length_map] at le
    have ha : ((L.map encL).any fun y => PyData.eqv (encL l) y) = decide (l ∈ L) := by
      rw [Bool.eq_iff_iff, List.any_eq_true, decide_eq_true_eq]
      constructor
      · rintro ⟨y, hy, h⟩
        obtain ⟨m, hm, rfl⟩ := List.mem_map.mp hy
        rw [eqvL, decide_eq_true_eq] at h
        rw [h]; exact hm
      · intro h
        exact ⟨encL l, List.mem_map.mpr ⟨l, h, rfl⟩, by rw [eqvL]; simp⟩
    show (dedE (encL l :: L.map encL)).length < _ ↔ _
    rw [dedE, ha, List.nodup_cons]
    by_cases h : l ∈ L
    · rw [decide_eq_true h, cond_true, List.length_cons]
      exact ⟨fun _ hn => hn.1 h, fun _ => by omega⟩
    · rw [decide_eq_false h, cond_false, List.length_cons, List.length_cons]
      constructor
      · intro h1 h2; exact ih.mp (by omega) h2.2
      · intro h1
        have := ih.mpr fun h2 => h1 ⟨h, h2⟩
        omega
theorem ls_lab {L : List Lab} (h : L.length < 64) : (lsetD [.list (L.map encL)]).bind (fun x203 => (bD .len [.list (L.map encL)]).bind fun x204 => cmpD .Lt x203 x204) = some (decide (¬ L.Nodup)) := by
  have e : setOk (L.map encL) = true := by
    unfold setOk
    simp only [Bool.and_eq_true, List.all_eq_true]
    refine ⟨fun x hx y hy => alikeM L x hx y hy, ?_, dlesL 59 L, ?_⟩
    · intro x hx
      obtain ⟨a, _, rfl⟩ := List.mem_map.mp hx
      rfl
    · rw [List.length_map]; exact decide_eq_true h
  show ((cond (setOk (L.map encL)) (some (PyData.int (dedE (L.map encL)).length)) none).bind _) = _
  rw [e, ct, obs1, len_l, obs1, lt_i, List.length_map]
  have := ded_lt_iff L
  rw [decide_eq_decide.mpr (show ((dedE (L.map encL)).length : Int) < (L.length : Int) ↔ ¬ L.Nodup from ⟨fun h => this.mp (by omega), fun h => by have := this.mpr h; omega⟩)]
end K11

namespace K11
open PySem L2 EV
@[simp] theorem share_sh (x : D) : Sl.share (.sh x) = .sh x := rfl
def seg (rs : List Co) (f : Nat) : Nat → Co
  | 0 => rs.getD f .any
  | n + 1 => comp (seg rs f n) (rs.getD (f + n + 1) .any)
theorem seg_gd {ks : List Ty} {rs : List Co} (h : Rw ks rs) (f : Nat) : ∀ n, f + n < rs.length → Gd (seg rs f n) (ks.getD f hole) (ks.getD (f + n + 1) hole)
  | 0, hl => h f hl
  | n + 1, hl => (seg_gd h f n (by omega)).comp (h (f + n + 1) hl)
theorem loop3 {ds : List Int} (hDr : Dr ds) (A0 : Ty) (hA : A0.dp ≤ 4) (fA : flT A0 = true) (w0 : D) (k : Nat) (hk : 10 ≤ k) :
    ∃ (ks : List Ty) (A : Ty) (s4 : Sl), forL (fun σ x => asg f_law.N σ (forT (stAt f_law.body 3)) x) (fun σ => exs ⟨f_law.N, hd.G, callN T hd.G k⟩ 55 σ (forB (stAt f_law.body 3))) (intRange 0 3)
      [Sl.sh w0, Sl.sh (.list (ds.map .int)), Sl.sh (.list (HE true)), Sl.ow [enc A0], Sl.un, Sl.un, Sl.un, Sl.un, Sl.un, Sl.un, Sl.un, Sl.un, Sl.un, Sl.un, Sl.un, Sl.un, Sl.un, Sl.un] =
      some (.next [Sl.sh w0, Sl.sh (.list (ds.map .int)), Sl.sh (.list (HE true)), Sl.ow ((ks ++ [A]).map enc), s4, Sl.un, Sl.un, Sl.un, Sl.un, Sl.un, Sl.un, Sl.un, Sl.un, Sl.un, Sl.un, Sl.un, Sl.un, Sl.un]) ∧
      ks.length = 3 ∧ (∀ B ∈ ks ++ [A], B.dp ≤ 4) ∧ (∀ B ∈ ks ++ [A], flT B = true) ∧ Ch (ks ++ [A]) := by
  have := forL_inv (g := fun σ x => asg f_law.N σ (forT (stAt f_law.body 3)) x) (body := fun σ => exs ⟨f_law.N, hd.G, callN T hd.G k⟩ 55 σ (forB (stAt f_law.body 3)))
    (fun j σ => ∃ (ks : List Ty) (A : Ty) (s4 : Sl), σ = [Sl.sh w0, Sl.sh (.list (ds.map .int)), Sl.sh (.list (HE true)), Sl.ow ((ks ++ [A]).map enc), s4, Sl.un, Sl.un, Sl.un, Sl.un, Sl.un, Sl.un, Sl.un, Sl.un, Sl.un, Sl.un, Sl.un, Sl.un, Sl.un] ∧ ks.length = j ∧ (∀ B ∈ ks ++ [A], B.dp ≤ 4) ∧ (∀ B ∈ ks ++ [A], flT B = true) ∧ Ch (ks ++ [A]))
    (intRange 0 3) 0 [Sl.sh w0, Sl.sh (.list (ds.map .int)), Sl.sh (.list (HE true)), Sl.ow [enc A0], Sl.un, Sl.un, Sl.un, Sl.un, Sl.un, Sl.un, Sl.un, Sl.un, Sl.un, Sl.un, Sl.un, Sl.un, Sl.un, Sl.un]
    ⟨[], A0, _, rfl, rfl, by intro B hB; rw [List.nil_append, List.mem_singleton] at hB; rw [hB]; exact hA, by intro B hB; rw [List.nil_append, List.mem_singleton] at hB; rw [hB]; exact fA, by intro t ht; exact absurd ht (by simp)⟩ ?_
  · obtain ⟨σ', q, ks, A, s4, rfl, h1, h2⟩ := this
    rw [intRange_length] at h1
    exact ⟨ks, A, s4, q, by omega, h2⟩
  · rintro j hj σ ⟨ks, A, s4, rfl, h1, h2, hf, h3⟩
    have hx := range_at hj
    rw [intRange_length] at hj
    refine ⟨_, r_law_3g _ _ _ _ _ _ _ _ _ _ _ _ _ _ _ _ _ _ _, ?_⟩
    rw [hx]
    obtain ⟨B, eB, dB, cB, fB⟩ := ev_next hDr true A 3 3 (100 + 300 * (0 + (j : Int))) k (hf A (by simp)) (by decide) (h2 A (by simp)) (by decide) (by omega) (by omega)
    have hl : decide (((ks ++ [A]).map enc).length < EV.few) = true := ltL (by rw [List.length_map, List.length_append, List.length_singleton]; omega)
    have il : ixD (.list ((ks ++ [A]).map enc)) (.int (-1)) = some (enc A) := by rw [List.map_append]; exact ix_last
    have hm : (ks ++ [A]).map enc ++ [enc B] = (ks ++ [A] ++ [B]).map enc := by simp
    have e := r_law_3b k w0 (.list (ds.map .int)) (.list (HE true)) ((ks ++ [A]).map enc) (.int (0 + (j : Int)))
    rw [mulL 300 _ rfl] at e
    simp only [obs1, add_i, il, eB, hl, ct, hm, share_sh] at e
    refine ⟨_, e, ks ++ [A], B, _, rfl, by rw [List.length_append, List.length_singleton]; omega, ?_, ?_, h3.app cB⟩
    · intro C hC
      rcases List.mem_append.mp hC with hC | hC
      · exact h2 C hC
      · rw [List.mem_singleton.mp hC]; exact dB
    · intro C hC
      rcases List.mem_append.mp hC with hC | hC
      · exact hf C hC
      · rw [List.mem_singleton.mp hC]; exact fB
/-! ### the rows -/
theorem row_at {ds : List Int} (hDr : Dr ds) {ks : List Ty} (hD : ∀ A ∈ ks, A.dp ≤ 4) (hC : Ch ks) (k : Nat) (hk : 170 ≤ k) (j : Nat) (hj : j + 1 < ks.length) :
    ∃ c, Gd c (ks.getD j hole) (ks.getD (j + 1) hole) ∧ (fun x26 => (((ixD (.list (ks.map enc)) x26).bind fun x42 => (((binD .Add x26 (PyData.int 1)).bind fun x27 => ixD (.list (ks.map enc)) x27).bind fun x40 => (((((((binD .Add (PyData.int 1) x26).bind fun x28 => some ([x28, (PyData.int 9)])).bind fun ys29 => some ((.list (ds.map .int)) :: ys29)).bind fun ds30 => callN T hd.G k "_law_mix" ds30).bind fun x36 => ((((((binD .Add (PyData.int 4) x26).bind fun x31 => some ([x31, (PyData.int 2)])).bind fun ys32 => some ((.list (ds.map .int)) :: ys32)).bind fun ds33 => callN T hd.G k "_law_mix" ds33).bind fun x34 => (cmpD .Eq x34 (PyData.int 0)).map PyData.bool).bind fun x35 => some ([x35])).bind fun ys37 => some (x36 :: ys37)).bind fun ds38 => cond (decide (ds38.length ≤ few)) (some (PyData.tuple ds38)) none).bind fun x39 => some ([x39])).bind fun ys41 => some (x40 :: ys41)).bind fun ys43 => some (x42 :: ys43)).bind fun ds44 => callN T hd.G k "make" ds44).bind fun x45 => some (some x45)) (.int (j : Int)) = some (some (encC c)) := by
  obtain ⟨k, rfl⟩ : ∃ i, k = i + 1 := ⟨k - 1, by omega⟩
  have b1 : j < ks.length := by omega
  obtain ⟨r, er, r0, r1⟩ := ev_mix hDr k (1 + (j : Int)) 9 (by omega) (by decide)
  obtain ⟨s, es, s0, s1⟩ := ev_mix hDr k (4 + (j : Int)) 2 (by omega) (by decide)
  have el : PyData.tuple [PyData.int r, PyData.bool (s == 0)] = encL ⟨r.toNat, s == 0⟩ := by
    show _ = PyData.tuple [PyData.int ((r.toNat : Nat) : Int), _]
    rw [Int.toNat_of_nonneg r0]
  have hn : (⟨r.toNat, s == 0⟩ : Lab).n < 90 := by show r.toNat < 90; omega
  generalize (⟨r.toNat, s == 0⟩ : Lab) = l at el hn
  have hA := hD _ (getD_mem (d := hole) b1)
  have hB := hD _ (getD_mem (d := hole) hj)
  have hc := hC j hj
  have em := ev_make (n := 4) (m := k + 1) (by decide) l hA hB (fit4 hA) (fit4 hB) hc (by omega)
  have i1 : ixD (.list (ks.map enc)) (.int ((j : Int) + 1)) = some (enc (ks.getD (j + 1) hole)) := ixK hj
  refine ⟨mk 4 (ks.getD j hole) (ks.getD (j + 1) hole) l, ⟨W_mk 4 _ _ l hA hB hc, by have := hgt_mk 4 (ks.getD j hole) (ks.getD (j + 1) hole) l; omega, lbs_mk 4 _ _ l ⟨hn, hn⟩⟩, ?_⟩
  simp only [obs1, add_i, ixK b1, i1, er, es, eq_i, Option.map_some, List.length_cons, List.length_nil, Nat.zero_add, Nat.reduceAdd, few2, ct, el, em]
theorem rows_ev {ds : List Int} (hDr : Dr ds) {ks : List Ty} (h4 : ks.length = 4) (hD : ∀ A ∈ ks, A.dp ≤ 4) (hC : Ch ks) (k : Nat) (hk : 170 ≤ k) :
    ∃ rs : List Co, rs.length = 3 ∧ Rw ks rs ∧ compM (fun x26 => (((ixD (.list (ks.map enc)) x26).bind fun x42 => (((binD .Add x26 (PyData.int 1)).bind fun x27 => ixD (.list (ks.map enc)) x27).bind fun x40 => (((((((binD .Add (PyData.int 1) x26).bind fun x28 => some ([x28, (PyData.int 9)])).bind fun ys29 => some ((.list (ds.map .int)) :: ys29)).bind fun ds30 => callN T hd.G k "_law_mix" ds30).bind fun x36 => ((((((binD .Add (PyData.int 4) x26).bind fun x31 => some ([x31, (PyData.int 2)])).bind fun ys32 => some ((.list (ds.map .int)) :: ys32)).bind fun ds33 => callN T hd.G k "_law_mix" ds33).bind fun x34 => (cmpD .Eq x34 (PyData.int 0)).map PyData.bool).bind fun x35 => some ([x35])).bind fun ys37 => some (x36 :: ys37)).bind fun ds38 => cond (decide (ds38.length ≤ few)) (some (PyData.tuple ds38)) none).bind fun x39 => some ([x39])).bind fun ys41 => some (x40 :: ys41)).bind fun ys43 => some (x42 :: ys43)).bind fun ds44 => callN T hd.G k "make" ds44).bind fun x45 => some (some x45)) (intRange 0 3) = some (rs.map encC) := by
  obtain ⟨a, ga, ea⟩ := row_at hDr hD hC k hk 0 (by omega)
  obtain ⟨b, gb, eb⟩ := row_at hDr hD hC k hk 1 (by omega)
  obtain ⟨c, gc, ec⟩ := row_at hDr hD hC k hk 2 (by omega)
  refine ⟨[a, b, c], rfl, ?_, ?_⟩
  · intro t ht
    match t, ht with
    | 0, _ => exact ga
    | 1, _ => exact gb
    | 2, _ => exact gc
    | t + 3, h => exact absurd h (by simp)
  · refine compM_of (by rw [intRange_length]; rfl) fun j x y h1 h2 => ?_
    obtain ⟨hj, hx⟩ := intRange_get 3 0 j x h1
    rw [hx]
    match j, hj with
    | 0, _ => cases h2; exact ea
    | 1, _ => cases h2; exact eb
    | 2, _ => cases h2; exact ec
    | j + 3, h => exact absurd h (by omega)
/-! ### values behind them -/
theorem Gd.d' {c : Co} {A B : Ty} (g : Gd c A B) (v : Val) (h : dpV v ≤ 9) : dpV (seen c v) ≤ 21 := by have := dp_seen c v; have := g.d; omega
theorem Gd.s' {c : Co} {A B : Ty} (g : Gd c A B) (v : Val) (h : szV v ≤ 125) : szV (seen c v) ≤ 250 := by have := (sz_seen c g.w v).1; omega
theorem gd_app {c : Co} {A B : Ty} {v : Val} (w : W c A B) (o : OkC c) (t : VT v A) (hs : szV v < 400) (hd' : dpV v ≤ 50) {k : Nat} (hk : 170 ≤ k) : callN T hd.G k "applied" [encC c, encV v] = some (encV (seen c v)) := ev_app w o t hs hd' (by omega)
theorem turn5i {ks : List Ty} {rs : List Co} (h4 : ks.length = 4) (h3 : rs.length = 3) (hR : Rw ks rs) {k : Nat} (hk : 170 ≤ k) (w0 w1 w2 w4 : D) (v : Val) (tv : VT v (ks.getD 0 hole)) (sv : szV v ≤ 125) (dv : dpV v ≤ 9) (s10 s11 : Sl) (j : Nat) (hj : j < 2) :
    ∃ t10, exs ⟨f_law.N, hd.G, callN T hd.G k⟩ 48 [Sl.sh w0, Sl.sh w1, Sl.sh w2, Sl.ow (ks.map enc), Sl.sh w4, Sl.ow (rs.map encC), Sl.sh (encV v), Sl.sh (encC (seg rs 0 j)), Sl.sh (encV (seen (seg rs 0 j) v)), Sl.sh (.int ((0 + j + 1 : Nat) : Int)), s10, s11, Sl.un, Sl.un, Sl.un, Sl.un, Sl.un, Sl.un] (forB (stAt (forB (stAt f_law.body 5)) 3)) =
      some (.next [Sl.sh w0, Sl.sh w1, Sl.sh w2, Sl.ow (ks.map enc), Sl.sh w4, Sl.ow (rs.map encC), Sl.sh (encV v), Sl.sh (encC (seg rs 0 (j + 1))), Sl.sh (encV (seen (seg rs 0 (j + 1)) v)), Sl.sh (.int ((0 + j + 1 : Nat) : Int)), t10, s11, Sl.un, Sl.un, Sl.un, Sl.un, Sl.un, Sl.un]) := by
  have b3 : 0 + j + 1 < rs.length := by omega
  have g := seg_gd hR 0 j (by omega)
  have g' := seg_gd hR 0 (j + 1) (by omega)
  have gr := hR (0 + j + 1) b3
  have da := g.d
  have dr := gr.d
  have t1 := VT_seen _ g.w tv
  have z1 := g.s' v sv
  have z2 := g.d' v dv
  have e1 := gd_app g.w g.o tv (by omega) (by omega) hk
  have e2 : callN T hd.G k "compose" [encC (seg rs 0 j), encC (rs.getD (0 + j + 1) .any)] = some (encC (seg rs 0 (j + 1))) := ev_compose g.w gr.w g.o gr.o (by omega) (by omega) (by omega)
  have eq : seen (rs.getD (0 + j + 1) .any) (seen (seg rs 0 j) v) = seen (seg rs 0 (j + 1)) v := (seen_comp _ (Nat.le_refl _) g.w gr.w tv).symm
  have e3 := lw_seen (rs.getD (0 + j + 1) .any) (seen (seg rs 0 j) v) k gr.w t1 (by omega) (by omega)
  have e4 := gd_app g'.w g'.o tv (by omega) (by omega) hk
  have e5 := gd_app gr.w gr.o t1 (by omega) (by omega) hk
  rw [eq] at e3 e5
  have e6 := neV (v := seen (seg rs 0 (j + 1)) v) (by have := g'.d' v dv; omega)
  have e := r_law_5b3b k w0 w1 w2 (ks.map enc) w4 (rs.map encC) (encV v) (Sl.sh (encC (seg rs 0 j))) (Sl.sh (encV (seen (seg rs 0 j) v))) s10 s11 (.int ((0 + j + 1 : Nat) : Int))
  simp only [share_sh, rd_sh, obs1, e1, ixR b3, e2, e3, e4, e5, e6, cf] at e
  exact ⟨_, e⟩
theorem loop5i {ks : List Ty} {rs : List Co} (h4 : ks.length = 4) (h3 : rs.length = 3) (hR : Rw ks rs) {k : Nat} (hk : 170 ≤ k) (w0 w1 w2 w4 : D) (v : Val) (tv : VT v (ks.getD 0 hole)) (sv : szV v ≤ 125) (dv : dpV v ≤ 9) (s9 s10 s11 : Sl) :
    ∃ t7 t8 t9 t10, forL (fun σ x => asg f_law.N σ (forT (stAt (forB (stAt f_law.body 5)) 3)) x) (fun σ => exs ⟨f_law.N, hd.G, callN T hd.G k⟩ 48 σ (forB (stAt (forB (stAt f_law.body 5)) 3))) (intRange 1 2)
      [Sl.sh w0, Sl.sh w1, Sl.sh w2, Sl.ow (ks.map enc), Sl.sh w4, Sl.ow (rs.map encC), Sl.sh (encV v), Sl.sh (encC (seg rs 0 0)), Sl.sh (encV (seen (seg rs 0 0) v)), s9, s10, s11, Sl.un, Sl.un, Sl.un, Sl.un, Sl.un, Sl.un] =
      some (.next [Sl.sh w0, Sl.sh w1, Sl.sh w2, Sl.ow (ks.map enc), Sl.sh w4, Sl.ow (rs.map encC), Sl.sh (encV v), t7, t8, t9, t10, s11, Sl.un, Sl.un, Sl.un, Sl.un, Sl.un, Sl.un]) := by
  have := forL_inv (g := fun σ x => asg f_law.N σ (forT (stAt (forB (stAt f_law.body 5)) 3)) x) (body := fun σ => exs ⟨f_law.N, hd.G, callN T hd.G k⟩ 48 σ (forB (stAt (forB (stAt f_law.body 5)) 3)))
    (fun j σ => ∃ t9 t10, σ = [Sl.sh w0, Sl.sh w1, Sl.sh w2, Sl.ow (ks.map enc), Sl.sh w4, Sl.ow (rs.map encC), Sl.sh (encV v), Sl.sh (encC (seg rs 0 j)), Sl.sh (encV (seen (seg rs 0 j) v)), t9, t10, s11, Sl.un, Sl.un, Sl.un, Sl.un, Sl.un, Sl.un])
    (intRange 1 2) 0 [Sl.sh w0, Sl.sh w1, Sl.sh w2, Sl.ow (ks.map enc), Sl.sh w4, Sl.ow (rs.map encC), Sl.sh (encV v), Sl.sh (encC (seg rs 0 0)), Sl.sh (encV (seen (seg rs 0 0) v)), s9, s10, s11, Sl.un, Sl.un, Sl.un, Sl.un, Sl.un, Sl.un] ⟨_, _, rfl⟩ ?_
  · obtain ⟨σ', q, t9, t10, rfl⟩ := this
    exact ⟨_, _, _, _, q⟩
  · rintro j hj σ ⟨t9, t10, rfl⟩
    have hx := range_at hj
    rw [intRange_length] at hj
    refine ⟨_, r_law_5b3g _ _ _ _ _ _ _ _ _ _ _ _ _ _ _ _ _ _ _, ?_⟩
    rw [hx, show (1 : Int) + (j : Int) = ((0 + j + 1 : Nat) : Int) by omega, Nat.zero_add j]
    obtain ⟨u10, e⟩ := turn5i h4 h3 hR hk w0 w1 w2 w4 v tv sv dv t10 s11 j hj
    rw [Nat.zero_add j] at e
    exact ⟨_, e, _, _, rfl⟩
theorem turn5 {ds : List Int} (hDr : Dr ds) {ks : List Ty} {rs : List Co} (h4 : ks.length = 4) (h3 : rs.length = 3) (hD : ∀ A ∈ ks, A.dp ≤ 4) (hF : ∀ A ∈ ks, flT A = true) (hR : Rw ks rs) {k : Nat} (hk : 170 ≤ k) (w0 w2 : D) (s6 s7 s8 s9 s10 s11 : Sl) (j : Nat) :
    ∃ t6 t7 t8 t9 t10 t11, exs ⟨f_law.N, hd.G, callN T hd.G k⟩ 53 [Sl.sh w0, Sl.sh (.list (ds.map .int)), Sl.sh w2, Sl.ow (ks.map enc), Sl.sh (.int (0 + (j : Int))), Sl.ow (rs.map encC), s6, s7, s8, s9, s10, s11, Sl.un, Sl.un, Sl.un, Sl.un, Sl.un, Sl.un] (forB (stAt f_law.body 5)) =
      some (.next [Sl.sh w0, Sl.sh (.list (ds.map .int)), Sl.sh w2, Sl.ow (ks.map enc), Sl.sh (.int (0 + (j : Int))), Sl.ow (rs.map encC), t6, t7, t8, t9, t10, t11, Sl.un, Sl.un, Sl.un, Sl.un, Sl.un, Sl.un]) := by
  have b0 : 0 < ks.length := by omega
  have hA := hD _ (getD_mem (d := hole) b0)
  have fA := hF _ (getD_mem (d := hole) b0)
  have oA : Ok (ks.getD 0 hole) := by show _ ≤ 50; omega
  have i0 : ixD (.list (ks.map enc)) (PyData.int 0) = some (enc (ks.getD 0 hole)) := ixK (j := 0) b0
  have q0 : ixD (.list (rs.map encC)) (PyData.int 0) = some (encC (rs.getD 0 .any)) := ixR (j := 0) (by omega)
  obtain ⟨v, ev, vv⟩ := v_all hDr 2 (by decide) (ks.getD 0 hole) fA oA 2 (2000 + 90 * (0 + (j : Int))) k (by decide) (by omega) (by omega)
  have tv := vv.t
  have dv : dpV v ≤ 9 := by have := vv.d; omega
  have sv : szV v ≤ 125 := by
    have s := vv.s
    have := sl_le (ks.getD 0 hole)
    have p : 2 ^ (2 + ((ks.getD 0 hole).dp - 1) + 2) ≤ 2 ^ 7 := Nat.pow_le_pow_right (by decide) (by omega)
    have e7 : (2 : Nat) ^ 7 = 128 := rfl
    have nn := vv.s
    by_cases hh : ks.getD 0 hole = hole
    · rw [hh] at s
      have s : szV v + 2 ≤ 2 ^ (2 + (1 - 1) + 2) := s
      have e4 : (2 : Nat) ^ (2 + (1 - 1) + 2) = 16 := rfl
      omega
    · have : slk (ks.getD 0 hole) = 3 := if_neg hh
      omega
  have g0 := hR 0 (by omega)
  have d0 := g0.d
  have e1 := lw_seen (rs.getD 0 .any) v k g0.w tv (by omega) (by omega)
  have e2 := gd_app g0.w g0.o tv (by omega) (by omega) hk
  have rp := rp_V (Sv.seen _ v g0.l vv.i) (by have := g0.s' v sv; omega) (by have := g0.d' v dv; omega)
  have e3 := ev_identity (fit4 hA) (m := k) (by omega)
  have e4 := gd_app (W_idn (ks.getD 0 hole)) (ok_idn hA) tv (by omega) (by omega) hk
  rw [seen_idn _ tv] at e4
  have e5 := neV (v := v) (by omega)
  have r13 : rng2 (PyData.int 1) (PyData.int 3) = some (intRange 1 2) := by kernel_rfl
  have e := r_law_5b k w0 (.list (ds.map .int)) w2 (ks.map enc) (rs.map encC) s6 s7 s8 s9 s10 s11 (.int (0 + (j : Int)))
  have m90 := mulL 90 (0 + (j : Int)) rfl
  have ev : callN T hd.G k "_law_value" [.list (ds.map .int), .int (2000 + 90 * (0 + (j : Int))), enc (ks.getD 0 hole), (PyData.int 2)] = some (encV v) := ev
  obtain ⟨t7, t8, t9, t10, q⟩ := loop5i h4 h3 hR hk w0 (.list (ds.map .int)) w2 (.int (0 + (j : Int))) v tv sv dv s9 s10 s11
  have q : forL (fun σ x => asg f_law.N σ (forT (stAt (forB (stAt f_law.body 5)) 3)) x) (fun σ => exs ⟨f_law.N, hd.G, callN T hd.G k⟩ 48 σ (forB (stAt (forB (stAt f_law.body 5)) 3))) (intRange 1 2)
      [Sl.sh w0, Sl.sh (.list (ds.map .int)), Sl.sh w2, Sl.ow (ks.map enc), Sl.sh (.int (0 + (j : Int))), Sl.ow (rs.map encC), Sl.sh (encV v), Sl.sh (encC (rs.getD 0 .any)), Sl.sh (encV (seen (rs.getD 0 .any) v)), s9, s10, s11, Sl.un, Sl.un, Sl.un, Sl.un, Sl.un, Sl.un] = _ := q
  simp only [m90, add_i, obs1, i0, q0, ev, e1, e2, rp, ne_strs, cf, e3, e4, e5, r13] at e
  rw [q, obs1] at e
  have l7 : (PyData.tuple [(PyData.int 7), (PyData.bool true)]) = encL ⟨7, true⟩ := rfl
  have l8 : (PyData.tuple [(PyData.int 8), (PyData.bool true)]) = encL ⟨8, true⟩ := rfl
  have hh : hole.dp ≤ 4 := by decide
  have m1 : callN T hd.G k "make" [enc (ks.getD 0 hole), (PyData.tuple [(PyData.str "?")]), encL ⟨7, true⟩] = some (encC (mk 4 (ks.getD 0 hole) hole ⟨7, true⟩)) := ev_make (n := 4) (by decide) ⟨7, true⟩ hA hh (fit4 hA) (fit4 hh) (.hr _) (by omega)
  have m2 : callN T hd.G k "make" [(PyData.tuple [(PyData.str "?")]), enc (ks.getD 0 hole), encL ⟨8, true⟩] = some (encC (mk 4 hole (ks.getD 0 hole) ⟨8, true⟩)) := ev_make (n := 4) (by decide) ⟨8, true⟩ hh hA (fit4 hh) (fit4 hA) (.hl _) (by omega)
  have G1 := Ge.of ⟨7, true⟩ hA hh (.hr _) fA rfl
  have G2 := Ge.of ⟨8, true⟩ hh hA (.hl _) rfl fA
  have z := (sz_seen _ G1.w v).1
  have z2 := dp_seen (mk 4 (ks.getD 0 hole) hole ⟨7, true⟩) v
  have z3 := G1.d
  have a1 := gd_app G1.w G1.o tv (by omega) (by omega) hk
  have a2 := gd_app G2.w G2.o (VT_seen _ G1.w tv) (by omega) (by omega) hk
  rw [← seen_comp _ (Nat.le_refl _) G1.w G2.w tv, mk_back 4 _ _ _ hA fA, seen_idn _ tv] at a2
  have e' := r_law_5b3a k w0 (.list (ds.map .int)) w2 (ks.map enc) (.int (0 + (j : Int))) (rs.map encC) (encV v) t7 t8 t9 t10 s11
  simp only [i0, obs1, l7, l8, m1, m2, a1, a2, e5, cf] at e'
  exact ⟨_, _, _, _, _, _, e.trans e'⟩
end K11

namespace K11
open PySem L2 EV
theorem loop5 {ds : List Int} (hDr : Dr ds) {ks : List Ty} {rs : List Co} (h4 : ks.length = 4) (h3 : rs.length = 3) (hD : ∀ A ∈ ks, A.dp ≤ 4) (hF : ∀ A ∈ ks, flT A = true) (hR : Rw ks rs) {k : Nat} (hk : 170 ≤ k) (w0 w2 : D) (s4 : Sl) :
    ∃ t4 t6 t7 t8 t9 t10 t11, forL (fun σ x => asg f_law.N σ (forT (stAt f_law.body 5)) x) (fun σ => exs ⟨f_law.N, hd.G, callN T hd.G k⟩ 53 σ (forB (stAt f_law.body 5))) (intRange 0 4)
      [Sl.sh w0, Sl.sh (.list (ds.map .int)), Sl.sh w2, Sl.ow (ks.map enc), s4, Sl.ow (rs.map encC), Sl.un, Sl.un, Sl.un, Sl.un, Sl.un, Sl.un, Sl.un, Sl.un, Sl.un, Sl.un, Sl.un, Sl.un] =
      some (.next [Sl.sh w0, Sl.sh (.list (ds.map .int)), Sl.sh w2, Sl.ow (ks.map enc), t4, Sl.ow (rs.map encC), t6, t7, t8, t9, t10, t11, Sl.un, Sl.un, Sl.un, Sl.un, Sl.un, Sl.un]) := by
  have := forL_inv (g := fun σ x => asg f_law.N σ (forT (stAt f_law.body 5)) x) (body := fun σ => exs ⟨f_law.N, hd.G, callN T hd.G k⟩ 53 σ (forB (stAt f_law.body 5)))
    (fun j σ => ∃ t4 t6 t7 t8 t9 t10 t11, σ = [Sl.sh w0, Sl.sh (.list (ds.map .int)), Sl.sh w2, Sl.ow (ks.map enc), t4, Sl.ow (rs.map encC), t6, t7, t8, t9, t10, t11, Sl.un, Sl.un, Sl.un, Sl.un, Sl.un, Sl.un])
    (intRange 0 4) 0 [Sl.sh w0, Sl.sh (.list (ds.map .int)), Sl.sh w2, Sl.ow (ks.map enc), s4, Sl.ow (rs.map encC), Sl.un, Sl.un, Sl.un, Sl.un, Sl.un, Sl.un, Sl.un, Sl.un, Sl.un, Sl.un, Sl.un, Sl.un] ⟨_, _, _, _, _, _, _, rfl⟩ ?_
  · obtain ⟨σ', q, t4, t6, t7, t8, t9, t10, t11, rfl⟩ := this
    exact ⟨_, _, _, _, _, _, _, q⟩
  · rintro j hj σ ⟨t4, t6, t7, t8, t9, t10, t11, rfl⟩
    have hx := range_at hj
    refine ⟨_, r_law_5g _ _ _ _ _ _ _ _ _ _ _ _ _ _ _ _ _ _ _, ?_⟩
    rw [hx]
    obtain ⟨u6, u7, u8, u9, u10, u11, e⟩ := turn5 hDr h4 h3 hD hF hR hk w0 w2 t6 t7 t8 t9 t10 t11 j
    exact ⟨_, e, _, _, _, _, _, _, _, rfl⟩
/-! ### the two made up -/
theorem Ge.ht {c : Co} {A B : Ty} (g : Ge c A B) {k : Nat} (hk : 160 ≤ k) : callN T hd.G k "height" [encC c] = some (.int (hgt c : Int)) := by
  obtain ⟨k, rfl⟩ : ∃ j, k = j + 1 := ⟨k - 1, by omega⟩
  have := g.d
  rw [r_height, ev_chkC g.w g.o (by omega), ev_ht c k (by omega)]; rfl
theorem Ge.l45 {c : Co} {A B : Ty} (g : Ge c A B) : (lbs c).length < 64 := by
  have h1 := lbs_sz c
  have h2 := (sz_gs c g.w).2.2
  have h3 := gs_mono g.h
  have e4 : gs 4 = 45 := rfl
  omega
theorem max_i (i j : Nat) : bD .max [.int (i : Int), .int (j : Int)] = some (.int ((max i j : Nat) : Int)) := by
  show some (PyData.int (cond (decide ((j : Int) > (i : Int))) (j : Int) i)) = _
  by_cases h : i < j
  · rw [decide_eq_true (by omega : (j : Int) > (i : Int)), Nat.max_eq_right (by omega)]; rfl
  · rw [decide_eq_false (by omega : ¬ (j : Int) > (i : Int)), Nat.max_eq_left (by omega)]; rfl
theorem rp_b (b : Bool) : bD .repr [.bool b] = some (.str (PyData.shown (.bool b))) := repr_of (by simp) rfl (by simp [PyData.weight]) rfl rfl
theorem eq_nil {xs : List D} (h : dle 60 (.list xs) = true) : cmpD .Eq (.list xs) (PyData.list []) = some xs.isEmpty := by
  show (cond (dle 60 (.list xs) && dle 60 (.list [])) (some (PyData.eqv (.list xs) (.list []))) none) = _
  have h2 : dle 60 (.list []) = true := rfl
  rw [h, h2]
  cases xs <;> rfl
/-- the rows of labels with one twice -/
theorem lab_filter {L M : List Lab} (hL : L.length < 64) (hM : M.length < 64) : ((lim (compM (fun x200 => (((lsetD [x200]).bind fun x203 => (bD .len [x200]).bind fun x204 => cmpD .Lt x203 x204).bind fun b201 => cond b201 (some true) (some false)).bind fun b202 => cond b202 (some (some x200)) (some none)) [.list (L.map encL), .list (M.map encL)])).bind fun x205 => cmpD .Eq x205 (PyData.list [])) = some (decide (L.Nodup ∧ M.Nodup)) := by
  have a := ls_lab hL
  have b := ls_lab hM
  have dl : ∀ L : List Lab, dle 59 (.list (L.map encL)) = true := fun L => dlesL 57 L
  have d1 : ∀ xs : List D, (∀ x ∈ xs, dle 59 x = true) → dle 60 (.list xs) = true := by
    intro xs h
    show dles 59 xs = true
    induction xs with
    | nil => rfl
    | cons x r ih => rw [dles_cons, h x List.mem_cons_self, ih fun y hy => h y (List.mem_cons_of_mem _ hy)]; rfl
  simp only [compM, a, b, obs1]
  by_cases h1 : L.Nodup
  · by_cases h2 : M.Nodup
    · simp only [h1, h2, not_true_eq_false, decide_false, cf, obs1, and_self, decide_true]
      exact eq_nil rfl
    · simp only [h1, h2, not_true_eq_false, not_false_eq_true, decide_false, decide_true, cf, ct, obs1, and_false]
      exact eq_nil (d1 _ (by intro x hx; rw [List.mem_singleton] at hx; rw [hx]; exact dl M))
  · by_cases h2 : M.Nodup
    · simp only [h1, h2, not_true_eq_false, not_false_eq_true, decide_false, decide_true, cf, ct, obs1, false_and]
      exact eq_nil (d1 _ (by intro x hx; rw [List.mem_singleton] at hx; rw [hx]; exact dl L))
    · simp only [h1, h2, not_true_eq_false, not_false_eq_true, decide_false, decide_true, cf, ct, obs1, false_and]
      exact eq_nil (d1 _ (by intro x hx; rcases List.mem_cons.mp hx with hx | hx; exact hx ▸ dl L; rw [List.mem_singleton] at hx; rw [hx]; exact dl M))
theorem cm_filter {F : D → Option (Option D)} {p : Val → Bool} : ∀ {vs : List Val}, (∀ v ∈ vs, F (encV v) = some (cond (p v) (some (encV v)) none)) → compM F (encP vs) = some (encP (vs.filter p))
  | [], _ => rfl
  | v :: r, h => by
    have i := cm_filter (F := F) (p := p) (vs := r) fun w hw => h w (List.mem_cons_of_mem _ hw)
    have h0 := h v List.mem_cons_self
    show (compM F (encV v :: encP r)) = _
    unfold compM
    rw [h0, obs1, i, obs1]
    cases e : p v <;> simp [List.filter_cons, e]
theorem dleP {vs : List Val} (h : ∀ v ∈ vs, dpV v ≤ 59) : dle 60 (.list (encP vs)) = true := by
  show dles 59 (encP vs) = true
  induction vs with
  | nil => rfl
  | cons v r ih =>
    show dles 59 (encV v :: encP r) = true
    rw [dles_cons, dleV v 59 (h v List.mem_cons_self), ih fun w hw => h w (List.mem_cons_of_mem _ hw)]; rfl
/-- what the probes tell -/
theorem pr_filter {c d : Co} {A B : Ty} (g : Ge c A B) (g' : Ge d A B) (fA : flT A = true) (hA : A.dp ≤ 4) {k : Nat} (hk : 170 ≤ k) (h : Nat) (h4 : h ≤ 4) :
    ((lim (compM (fun x178 => (((callN T hd.G k "applied" [(encC c), x178]).bind fun x181 => (callN T hd.G k "applied" [(encC d), x178]).bind fun x182 => cmpD .NotEq x181 x182).bind fun b179 => cond b179 (some true) (some false)).bind fun b180 => cond b180 (some (some x178)) (some none)) (encP (pr A h)))).bind fun x183 => (cmpD .Eq x183 (PyData.list [])).map PyData.bool) = some (.bool ((pr A h).filter fun v => !eqV (seen c v) (seen d v)).isEmpty) := by
  have pv : ∀ v ∈ pr A h, VT v A ∧ szV v ≤ 62 ∧ dpV v ≤ 10 := by
    intro v hv
    have p := pr_v A h 4 fA h4 (by omega) v hv
    have s := p.s
    have e6 : (2 : Nat) ^ (4 + 2) = 64 := rfl
    have d := p.d
    exact ⟨p.t, by omega, by omega⟩
  have dc := g.d
  have dd := g'.d
  rw [cm_filter (p := fun v => !eqV (seen c v) (seen d v))]
  · have hl := pr_len A h h4
    have hs := (fit4 hA).sz
    have lf := List.length_filter_le (fun v => !eqV (seen c v) (seen d v)) (pr A h)
    rw [limB (by simp only [encP, List.length_map]; omega), obs1, eq_nil (dleP (by
      intro v hv
      have := (pv v (List.mem_filter.mp hv).1).2.2
      omega))]
    simp only [Option.map_some, encP, List.isEmpty_map]
  · intro v hv
    obtain ⟨t, s, dp⟩ := pv v hv
    have z1 := dp_seen c v
    have z2 := dp_seen d v
    rw [gd_app g.w g.o t (by omega) (by omega) hk, gd_app g'.w g'.o t (by omega) (by omega) hk, obs1, obs1, neV2 (by omega) (by omega)]
    cases eqV (seen c v) (seen d v) <;> rfl
theorem tell {c d : Co} {A B : Ty} (g : Ge c A B) (g' : Ge d A B) (fA : flT A = true) (n : (lbs c).Nodup) (n' : (lbs d).Nodup) : al c d = ((pr A (max (hgt c) (hgt d))).filter fun v => !eqV (seen c v) (seen d v)).isEmpty := by
  rw [Bool.eq_iff_iff, List.isEmpty_iff, List.filter_eq_nil_iff]
  constructor
  · intro h v hv
    rw [al_seen c d h, (eqV_iff _ _).mpr rfl]; simp
  · intro h
    refine complete c d A B _ g.w g'.w fA g.f g'.f n n' (Nat.le_max_left _ _) (Nat.le_max_right _ _) fun v hv => ?_
    have := h v hv
    exact (eqV_iff _ _).mp (by simpa using this)
theorem ne_b (b : Bool) : cmpD .NotEq (.bool b) (.bool b) = some false := by cases b <;> kernel_rfl
def Cq : Co := .frm .int ⟨3, true⟩ (.base .int)
theorem last1 {k : Nat} (hk : 170 ≤ k) : callN T hd.G k "probes" [(PyData.tuple [(PyData.str "list"), (PyData.tuple [(PyData.str "int")])]), (PyData.int 1)] = some (PyData.list [(PyData.tuple [(PyData.str "list"), (PyData.tuple [(PyData.str "int"), (PyData.int 0)])])]) := by
  have := ev_probes (A := .t1 .list (.t0 .int)) (h := 1) (by rfl) (by decide) (by decide) (by decide) (k := k) (by omega)
  exact this
theorem last2 {k : Nat} (hk : 170 ≤ k) : callN T hd.G k "applied" [(PyData.tuple [(PyData.str "from"), (PyData.str "int"), (PyData.tuple [(PyData.int 3), (PyData.bool true)]), (PyData.tuple [(PyData.str "id"), (PyData.str "int")])]), (PyData.tuple [(PyData.str "tag"), (PyData.str "unit"), (PyData.tuple [(PyData.str "unit")])])] = some (PyData.tuple [(PyData.str "blame"), (PyData.tuple [(PyData.int 3), (PyData.bool true)])]) := by
  have w : W Cq hole (.t0 .int) := ⟨rfl, rfl, rfl, rfl⟩
  have := gd_app (c := Cq) (v := .tag .unit .unit) w (by show dpC Cq ≤ 50; decide) ⟨rfl, rfl, rfl⟩ (by decide) (by decide) hk
  have e : seen Cq (.tag .unit .unit) = .blame ⟨3, true⟩ := seen_other (by decide)
  rw [e] at this
  exact this
theorem fin6 {ks : List Ty} (hA : (ks.getD 0 hole).dp ≤ 4) (fA : flT (ks.getD 0 hole) = true) (b0 : 0 < ks.length) {c d : Co} {B : Ty} (g : Ge c (ks.getD 0 hole) B) (g' : Ge d (ks.getD 0 hole) B) {k : Nat} (hk : 170 ≤ k) (w0 w1 w2 : D) (s4 : Sl) (l5 : List D) (s6 s7 s8 s9 s10 s11 : Sl) :
    exsK ⟨f_law.N, hd.G, callN T hd.G k⟩ 53 [Sl.sh w0, Sl.sh w1, Sl.sh w2, Sl.sh (.list (ks.map enc)), s4, Sl.ow l5, s6, s7, s8, s9, s10, s11, Sl.sh (encC c), Sl.sh (encC d), Sl.un, Sl.un, Sl.un, Sl.un] (f_law.body.drop 7) endK = some (.bool true) := by
  have i0 : ixD (.list (ks.map enc)) (PyData.int 0) = some (enc (ks.getD 0 hole)) := ixK (j := 0) b0
  generalize ks.getD 0 hole = A at *
  have h1 := g.ht (k := k) (by omega)
  have h2 := g'.ht (k := k) (by omega)
  have dc := g.d
  have dd := g'.d
  have b1 := ev_bare c k (by omega)
  have b2 := ev_bare d k (by omega)
  have be := eqB g.o g'.o
  have al1 := ev_alike g.w g'.w g.o g'.o (k := k) (by omega)
  have rb := rp_b (al c d)
  have gh := g.h
  have gh' := g'.h
  have lt5 : decide (((max (hgt c) (hgt d) : Nat) : Int) < 5) = true := decide_eq_true (by omega)
  have l1 := lw_lbs c k (by omega) g.l45
  have l2 := lw_lbs d k (by omega) g'.l45
  have lf := lab_filter g.l45 g'.l45
  have hg1 := hgt1 c
  have pb := ev_probes fA hA (h := max (hgt c) (hgt d)) (by omega) (by omega) (k := k) (by omega)
  have pf := pr_filter g g' fA hA hk (max (hgt c) (hgt d)) (by omega)
  have p1 := last1 hk
  have p2 := last2 hk
  have q1 : cmpD .Eq (PyData.list [(PyData.tuple [(PyData.str "list"), (PyData.tuple [(PyData.str "int"), (PyData.int 0)])])]) (PyData.list [(PyData.tuple [(PyData.str "list"), (PyData.tuple [(PyData.str "int"), (PyData.int 0)])])]) = some true := by kernel_rfl
  have q2 : cmpD .Eq (PyData.tuple [(PyData.str "blame"), (PyData.tuple [(PyData.int 3), (PyData.bool true)])]) (PyData.tuple [(PyData.str "blame"), (PyData.tuple [(PyData.int 3), (PyData.bool true)])]) = some true := by kernel_rfl
  rw [r_law_6c]
  simp only [h1, h2, obs1, max_i, b1, b2, be, Option.map_some, al1, rb, ne_strs, cf, lt_i, lt5, ct, l1, l2, List.length_cons, List.length_nil, Nat.zero_add, Nat.reduceAdd, few2, itL]
  rw [lf]
  simp only [obs1]
  by_cases nn : (lbs c).Nodup ∧ (lbs d).Nodup
  · rw [decide_eq_true nn, ct, i0, obs1, obs1, pb, obs1, itL, obs1, pf, obs1, ← tell g g' fA nn.1 nn.2, ne_b, obs1, cf, p1, obs1, q1]
    simp only [Option.map_some, obs1, tru_b, ct, p2, q2]
  · rw [decide_eq_false nn, cf, p1, obs1, q1]
    simp only [Option.map_some, obs1, tru_b, ct, p2, q2]
theorem law_true (ns : List Int) (k : Nat) (hk : 200 ≤ k) : callN T hd.G (k + 1) "law" [.list (ns.map .int)] = some (.bool true) := by
  obtain ⟨k, rfl⟩ : ∃ i, k = i + 1 := ⟨k - 1, by omega⟩
  obtain ⟨ds, ed, hDr⟩ := ev_draws ns k
  obtain ⟨A0, eA, dA, fA0⟩ := ev_type hDr true 3 3 10 (k + 1) (by decide) (by decide) (by omega)
  have eA : callN T hd.G (k + 1) "_law_type" [.list (ds.map .int), PyData.int 10, PyData.int 3, (PyData.list [(PyData.str "pair"), (PyData.str "list"), (PyData.str "pair")])] = some (enc A0) := eA
  have r3 : rng1 (PyData.int 3) = some (intRange 0 3) := by kernel_rfl
  have r4 : rng1 (PyData.int 4) = some (intRange 0 4) := by kernel_rfl
  have r2 : rng1 (PyData.int 2) = some (intRange 0 2) := by kernel_rfl
  have f1 : decide ([enc A0].length ≤ few) = true := few1
  obtain ⟨ks, A, s4, q3, h3', hD, hF, hC⟩ := loop3 hDr A0 dA fA0 (.list (ns.map .int)) (k + 1) (by omega)
  have q3 : forL (fun σ x => asg f_law.N σ (forT (stAt f_law.body 3)) x) (fun σ => exs ⟨f_law.N, hd.G, callN T hd.G (k + 1)⟩ 55 σ (forB (stAt f_law.body 3))) (intRange 0 3)
      [Sl.sh (.list (ns.map .int)), Sl.sh (.list (ds.map .int)), Sl.sh (PyData.list [(PyData.str "pair"), (PyData.str "list"), (PyData.str "pair")]), Sl.ow [enc A0], Sl.un, Sl.un, Sl.un, Sl.un, Sl.un, Sl.un, Sl.un, Sl.un, Sl.un, Sl.un, Sl.un, Sl.un, Sl.un, Sl.un] = _ := q3
  rw [r_law, ed, obs1, eA, obs1, obs1, f1, ct, r3, obs1, q3, obs1]
  show exsK _ 56 _ _ _ = _
  have h4 : (ks ++ [A]).length = 4 := by rw [List.length_append, List.length_singleton]; omega
  obtain ⟨rs, l3, hR, eR⟩ := rows_ev hDr h4 hD hC (k + 1) (by omega)
  have fr : decide ((rs.map encC).length ≤ few) = true := fewB (by rw [List.length_map]; omega)
  obtain ⟨t4, t6, t7, t8, t9, t10, t11, q5⟩ := loop5 hDr h4 l3 hD hF hR (k := k + 1) (by omega) (.list (ns.map .int)) (.list (HE true)) s4
  rw [r_law_3a, r3, obs1, eR, obs1, fr, ct, r4, obs1, q5, obs1]
  show exsK _ 54 _ _ _ = _
  have b0 : 0 < (ks ++ [A]).length := by omega
  obtain ⟨c, ec, gc⟩ := ev_up hDr ks A hD hF k (by omega) 3000 (by decide)
  obtain ⟨d, ed', gd⟩ := ev_up hDr ks A hD hF k (by omega) 3050 (by decide)
  have up : compM (fun x134 => (((((binD .Mult (PyData.int 50) x134).bind fun x135 => binD .Add (PyData.int 3000) x135).bind fun x136 => some ([x136, (.list ((ks ++ [A]).map enc))])).bind fun ys137 => some ((.list (ds.map .int)) :: ys137)).bind fun ds138 => callN T hd.G (k + 1) "_law_made_up" ds138).bind fun x139 => some (some x139)) (intRange 0 2) = some [encC c, encC d] := by
    show compM _ [.int 0, .int 1] = _
    have a0 : binD .Mult (PyData.int 50) (PyData.int 0) = some (.int 0) := rfl
    have a1 : binD .Mult (PyData.int 50) (PyData.int 1) = some (.int 50) := rfl
    have a2 : binD .Add (PyData.int 3000) (PyData.int 0) = some (.int 3000) := rfl
    have a3 : binD .Add (PyData.int 3000) (PyData.int 50) = some (.int 3050) := rfl
    simp only [compM, a0, a1, a2, a3, obs1, ec, ed']
  rw [r_law_5a, r2, obs1, up, lim2, obs1, r_law_6g, obs1]
  show exsK _ 53 _ _ _ = _
  exact fin6 (hD _ (getD_mem b0)) (hF _ (getD_mem b0)) b0 gc gd (by omega) _ _ _ _ _ _ _ _ _ _ _
end K11

theorem PySem.Challenge.cw_typedbydegrees_k11_whole_values_behind_c_holds : PySem.Challenge.rw_typedbydegrees_k11_whole_values_behind_c.Holds := by
  exact K11.holds_of (k := 200) ⟨rfl, by decide, by decide⟩ fun ns _ _ => K11.law_true ns 200 (by decide)

